import PyProof.Rows.All
import Wide.All
import OpenK.AllK
import Wide.FinOn
import KE.KStateDown
import HandS.Head0
import HandS.Head1
import HandS.Head2
import KE.HD3
import HandS.HeadEnd
import HandS.HeadHook1
import HandS.HeadHook2
import HandS.Words
import HandS.WordsExc
import HandS.ForMost
import HandS.Style
import HandS.Wide
import HandS.WideMore
import HandS.WideBits
import HandS.Gcd
import HandS.IsInst
import HandS.Defaults
import HandS.NoneIn
import HandS.TryOnly
import HandS.Dict
import KE.GoesEnum
import KE.GoesMore
import PySem.Challenge.RW_allcurves_k75_whole_keys_told_and_talks
set_option Elab.async false
set_option linter.all false
set_option maxRecDepth 100000
set_option maxHeartbeats 0
namespace K75
open PySem PySem.Spec PyProof.Rows L2
def top (i : Nat) : Stmt := PySem.Challenge.pw_allcurves_k75_whole_keys_told_and_talks.main.body.getD i (.Pass ⟨0, 0, 0, 0⟩)
def dd (x : Str) (i : Nat) : He.DefD := ⟨(x, none), x, x, defArgs (top i), defBody (top i), defScope (top i), [], []⟩
def fn : List He.DefD := dd "remainder_power" 10 :: dd "odd_part" 11 :: dd "is_refuted" 12 :: dd "small_divisor" 13 :: dd "has_full_order" 14 :: dd "stepped" 15 :: dd "met_singly" 16 :: dd "met" 17 :: dd "divisor_of" 18 :: dd "without" 19 :: dd "small_parts" 20 :: dd "great_parts" 21 :: dd "judged" 22 :: dd "is_shown" 23 :: dd "factored" 24 :: dd "inverse" 26 :: dd "is_integer" 28 :: dd "is_tuple_of" 29 :: dd "numbers_text" 31 :: dd "point_text" 34 :: dd "grown" 37 :: dd "digest" 38 :: dd "digest_of_words" 39 :: dd "right_side" 41 :: dd "is_on" 42 :: dd "is_below" 43 :: dd "need_point" 44 :: dd "is_point" 45 :: dd "opposite" 46 :: dd "are_opposite" 47 :: dd "slope" 48 :: dd "plus" 49 :: dd "times" 50 :: dd "base_times" 52 :: dd "is_below_order" 53 :: dd "open_key" 54 :: dd "asked" 57 :: dd "answer" 58 :: dd "meets" 59 :: dd "signed" 60 :: dd "is_signature" 61 :: dd "holds" 62 :: dd "divided_by_order" 63 :: dd "key_of" 64 :: dd "talk_holds" 65 :: dd "made_up" 66 :: dd "least_times" 68 :: dd "primes_of" 69 :: dd "has_order" 70 :: dd "figures_to" 71 :: dd "multiple_of" 72 :: dd "_law_deal" 74 :: dd "_law_any" 75 :: dd "_law_of" 76 :: dd "_law_same" 77 :: dd "_law_back" 78 :: dd "_law_sum" 79 :: dd "_law_facing" 80 :: dd "_law_twice" 81 :: dd "_law_beside" 82 :: dd "_law_times" 83 :: dd "_law_is_flat" 84 :: dd "_law_through" 85 :: dd "_law_is_prime" 86 :: dd "_law_primes_of" 87 :: dd "_law_row" 88 :: dd "_law_small" 89 :: dd "_law_small_home" 90 :: dd "_law_middling" 91 :: dd "_law_even" 92 :: dd "_law_middling_home" 93 :: dd "_law_written" 94 :: dd "_law_written_pairs" 95 :: dd "_law_stretched" 96 :: dd "_law_moved" 97 :: dd "_law_great_home" 98 :: dd "_law_home" 99 :: dd "_law_signs" 100 :: dd "_law_words" 101 :: dd "_law_spot_text" 102 :: dd "_law_digest" 103 :: dd "_law_weight" 104 :: dd "_law_worth" 105 :: dd "_law_read" 106 :: dd "_law_meeting" 107 :: dd "_law_secret" 108 :: dd "_law_two_texts" 109 :: dd "_law_signature" 110 :: dd "_law_told_right" 111 :: dd "_law_equal" 112 :: dd "_law_honest" 113 :: dd "_law_changed" 114 :: dd "_law_talks_right" 115 :: dd "_law_all_talks" 116 :: dd "law" 117 :: []
def fa0 : List He.Fa := .glo "remainder_power" :: .glo "odd_part" :: .glo "is_refuted" :: .glo "small_divisor" :: .glo "has_full_order" :: .glo "stepped" :: .glo "met_singly" :: .glo "met" :: .glo "divisor_of" :: .glo "without" :: .glo "small_parts" :: .glo "great_parts" :: .glo "judged" :: .glo "is_shown" :: .glo "factored" :: .glo "inverse" :: .glo "is_integer" :: .glo "is_tuple_of" :: .glo "numbers_text" :: .glo "point_text" :: .glo "grown" :: .glo "digest" :: .glo "digest_of_words" :: .glo "right_side" :: .glo "is_on" :: .glo "is_below" :: .glo "need_point" :: .glo "is_point" :: .glo "opposite" :: .glo "are_opposite" :: .glo "slope" :: .glo "plus" :: .glo "times" :: .glo "base_times" :: .glo "is_below_order" :: .glo "open_key" :: .glo "asked" :: .glo "answer" :: .glo "meets" :: .glo "signed" :: []
def fa1 : List He.Fa := .glo "is_signature" :: .glo "holds" :: .glo "divided_by_order" :: .glo "key_of" :: .glo "talk_holds" :: .glo "made_up" :: .glo "least_times" :: .glo "primes_of" :: .glo "has_order" :: .glo "figures_to" :: .glo "multiple_of" :: .glo "_law_deal" :: .glo "_law_any" :: .glo "_law_of" :: .glo "_law_same" :: .glo "_law_back" :: .glo "_law_sum" :: .glo "_law_facing" :: .glo "_law_twice" :: .glo "_law_beside" :: .glo "_law_times" :: .glo "_law_is_flat" :: .glo "_law_through" :: .glo "_law_is_prime" :: .glo "_law_primes_of" :: .glo "_law_row" :: .glo "_law_small" :: .glo "_law_small_home" :: .glo "_law_middling" :: .glo "_law_even" :: .glo "_law_middling_home" :: .glo "_law_written" :: .glo "_law_written_pairs" :: .glo "_law_stretched" :: .glo "_law_moved" :: .glo "_law_great_home" :: .glo "_law_home" :: .glo "_law_signs" :: .glo "_law_words" :: .glo "_law_spot_text" :: []
def fa2 : List He.Fa := .glo "_law_digest" :: .glo "_law_weight" :: .glo "_law_worth" :: .glo "_law_read" :: .glo "_law_meeting" :: .glo "_law_secret" :: .glo "_law_two_texts" :: .glo "_law_signature" :: .glo "_law_told_right" :: .glo "_law_equal" :: .glo "_law_honest" :: .glo "_law_changed" :: .glo "_law_talks_right" :: .glo "_law_all_talks" :: .glo "law" :: .free "Exception" :: .free "abs" :: .free "bool" :: .free "enumerate" :: .free "int" :: .free "isinstance" :: .free "len" :: .free "ord" :: .free "range" :: .free "sorted" :: .free "str" :: .free "super" :: .free "tuple" :: .int "TRIED" 1000 :: .int "WALKS" 24 :: .int "WINDOW" 32 :: .int "WINDOWS" 8192 :: .int "FACTOR" 257 :: .int "LEAST_ORDER" 2 :: .str "ZERO" "zero" :: []
def fa : List He.Fa := fa0 ++ (fa1 ++ (fa2))
def loose0 : List PySem.Str := "CurveError" :: "InvalidPoint" :: "Refused" :: "TRIED" :: "WALKS" :: "WINDOW" :: "WINDOWS" :: "remainder_power" :: "odd_part" :: "is_refuted" :: "small_divisor" :: "has_full_order" :: "stepped" :: "met_singly" :: "met" :: "divisor_of" :: "without" :: "small_parts" :: "great_parts" :: "judged" :: "is_shown" :: "factored" :: "inverse" :: "is_integer" :: "is_tuple_of" :: "numbers_text" :: "ZERO" :: "point_text" :: "FACTOR" :: "grown" :: "digest" :: "digest_of_words" :: "right_side" :: "is_on" :: "is_below" :: "need_point" :: "is_point" :: "opposite" :: "are_opposite" :: "slope" :: []
def loose1 : List PySem.Str := "plus" :: "times" :: "base_times" :: "is_below_order" :: "open_key" :: "LEAST_ORDER" :: "asked" :: "answer" :: "meets" :: "signed" :: "is_signature" :: "holds" :: "divided_by_order" :: "key_of" :: "talk_holds" :: "made_up" :: "least_times" :: "primes_of" :: "has_order" :: "figures_to" :: "multiple_of" :: "_law_deal" :: "_law_any" :: "_law_of" :: "_law_same" :: "_law_back" :: "_law_sum" :: "_law_facing" :: "_law_twice" :: "_law_beside" :: "_law_times" :: "_law_is_flat" :: "_law_through" :: "_law_is_prime" :: "_law_primes_of" :: "_law_row" :: "_law_small" :: "_law_small_home" :: "_law_middling" :: "_law_even" :: []
def loose2 : List PySem.Str := "_law_middling_home" :: "_law_written" :: "_law_written_pairs" :: "_law_stretched" :: "_law_moved" :: "_law_great_home" :: "_law_home" :: "_law_signs" :: "_law_words" :: "_law_spot_text" :: "_law_digest" :: "_law_weight" :: "_law_worth" :: "_law_read" :: "_law_meeting" :: "_law_secret" :: "_law_two_texts" :: "_law_signature" :: "_law_told_right" :: "_law_equal" :: "_law_honest" :: "_law_changed" :: "_law_talks_right" :: "_law_all_talks" :: []
def bi : List (Str × String) := ("gcd", "math.gcd") :: ("isqrt", "math.isqrt") :: []
def loose : List PySem.Str := loose0 ++ (loose1 ++ (loose2))
abbrev R : PySem.W.OpenRow := PySem.W.OpenLaw.row PySem.Challenge.rw_allcurves_k75_whole_keys_told_and_talks
/-- the objects that are read: the module's names, the defs, their codes -/
def asF (g : Addr → Option Obj) : List Addr := match g mainGlobals with
  | some ⟨_, _, .dict es _, _⟩ => mainGlobals :: es.toList.flatMap fun e => (match e.val with
    | .ref a => (match g a with
      | some ⟨_, _, .func fd, _⟩ => a :: He.refV fd.code
      | _ => [])
    | _ => [])
  | _ => []
def bis (K : PySem.W.Frag) : List (Str × String) → Bool
  | [] => true
  | (x, id) :: r => He.eqO (PySem.W.nsIn K mainGlobals x) (some (some (.builtin id))) && bis K r
abbrev Al : Type := Bool × He.AlD
def obsK (K : PySem.W.Frag) : Al := (bis K bi, He.obsD fa fn K)
def valK : Al := (true, He.valD fn)
def SaysK (K : PySem.W.Frag) : Prop := obsK K = valK
def hk : PySem.W.Hook where
  α := Al
  obs := fun s => obsK (He.frG s.heap.get? (asF s.heap.get?))
  val := fun _ => valK
  says := fun _ h => ∃ K : PySem.W.Frag, K.In h ∧ SaysK K
  of := fun _ _ e => ⟨_, He.frG_in, e⟩
  keeps := fun _ _ _ ⟨K, hK, c⟩ k => ⟨K, PySem.W.Frag.In.keeps hK k, c⟩
def ob (s : PySem.W.SharedT) : Al := obsK (He.frG (HandSHeadRun.getT s) (asF (HandSHeadRun.getT s)))
theorem ob_eq (s : PySem.W.SharedT) : ob s = hk.obs s.abs := by
  have e : HandSHeadRun.getT s = s.abs.heap.get? := funext fun a => HandSHeadRun.getT_eq s a
  unfold ob
  rw [e] <;> rfl
theorem run (w : World) : HeadRun.RunEqI R (PySem.W.view R.prog [0, 117]) hk ob 9000 loose w := by
  unfold HeadRun.RunEqI
  kernel_rfl
end K75
set_option Elab.async false
set_option linter.all false
set_option maxRecDepth 100000
set_option maxHeartbeats 2000000
/-! LayA: values as data without addresses over the hand layer: D, the ghost of what stands where, the judgements' lifts. -/
namespace Cc
open PySem PySem.Spec PyProof.Rows L2
/-- data: tuples and lists told whole; deal: the law's source of draws; cell: its list of digits -/
inductive D where
  | non | bl (b : Bool) | int (i : Int) | str (x : Str) | tup (xs : List D) | lst (xs : List D) | deal | cell | opq | scr (a : Addr)
abbrev Gh := Addr → Option D
def Rp (G : Gh) (v : V) : D → Prop
  | .non => v = .non
  | .bl b => v = .bl b
  | .int i => v = .int i
  | .str x => v = .str x
  | .tup xs => ∃ a, v = .ref a ∧ G a = some (.tup xs)
  | .lst xs => ∃ a, v = .ref a ∧ G a = some (.lst xs)
  | .deal => ∃ a, v = .ref a ∧ G a = some .deal
  | .cell => False
  | .opq => True
  | .scr a => v = .ref a
abbrev Rps (G : Gh) : List V → List D → Prop := Paired (Rp G)
def Holds (G : Gh) (H : Hp) (a : Addr) : D → Prop
  | .tup xs => ∃ vs, H a = some (.tup vs) ∧ Rps G vs xs
  | .lst xs => ∃ vs, H a = some (.lst vs) ∧ Rps G vs xs
  | .deal => ∃ b m k, H a = some (.lst [.ref b, .int m, .int k]) ∧ G b = some .cell ∧ 0 ≤ m ∧ m < 2147483647 ∧ 0 ≤ k
  | .cell => ∃ ns : List Int, H a = some (.lst (ns.map V.int)) ∧ (∀ n ∈ ns, 0 ≤ n) ∧ ns.length ≤ 1000
  | _ => False
def Cons (G : Gh) (H : Hp) : Prop := ∀ a d, G a = some d → Holds G H a d
structure Step (G : Gh) (H : Hp) (G' : Gh) (H' : Hp) : Prop where
  g : ∀ a d, G a = some d → G' a = some d
  h : ∀ a o, H a = some o → G a = none → H' a = some o ∧ G' a = none
theorem Step.refl {G : Gh} {H : Hp} : Step G H G H := ⟨fun _ _ e => e, fun _ _ e n => ⟨e, n⟩⟩
theorem Step.trans {G G1 G2 : Gh} {H H1 H2 : Hp} (s : Step G H G1 H1) (t : Step G1 H1 G2 H2) : Step G H G2 H2 :=
  ⟨fun a d e => t.g a d (s.g a d e), fun a o e n => t.h a o (s.h a o e n).1 (s.h a o e n).2⟩
theorem Rp.mono {G G' : Gh} {v : V} {d : D} (g : ∀ a d, G a = some d → G' a = some d) (h : Rp G v d) : Rp G' v d := by
  cases d with
  | tup xs => obtain ⟨a, e, q⟩ := h; exact ⟨a, e, g _ _ q⟩
  | lst xs => obtain ⟨a, e, q⟩ := h; exact ⟨a, e, g _ _ q⟩
  | deal => obtain ⟨a, e, q⟩ := h; exact ⟨a, e, g _ _ q⟩
  | _ => exact h
theorem Rps.mono {G G' : Gh} (g : ∀ a d, G a = some d → G' a = some d) {vs : List V} {xs : List D} (h : Rps G vs xs) : Rps G' vs xs :=
  Paired.mapP h fun _ _ q => q.mono g
theorem Rps.get {G : Gh} : ∀ {vs : List V} {xs : List D} {i : Nat} {x : D}, Rps G vs xs → xs[i]? = some x → ∃ v, vs[i]? = some v ∧ Rp G v x
  | _, _, _, _, .nil, e => by simp at e
  | _, _, 0, _, .cons r _, e => by simp at e; subst e; exact ⟨_, rfl, r⟩
  | _, _, i + 1, x, .cons _ t, e => by
    obtain ⟨u, h1, h2⟩ := Rps.get (i := i) (x := x) t (by simpa using e)
    exact ⟨u, by simpa using h1, h2⟩
theorem Rps.getV {G : Gh} : ∀ {vs : List V} {xs : List D} {i : Nat} {v : V}, Rps G vs xs → vs[i]? = some v → ∃ x, xs[i]? = some x ∧ Rp G v x
  | _, _, _, _, .nil, e => by simp at e
  | _, _, 0, _, .cons r _, e => by simp at e; subst e; exact ⟨_, rfl, r⟩
  | _, _, i + 1, x, .cons _ t, e => by
    obtain ⟨u, h1, h2⟩ := Rps.getV (i := i) t (by simpa using e)
    exact ⟨u, by simpa using h1, h2⟩
theorem Rps.append {G : Gh} : ∀ {vs us : List V} {xs ys : List D}, Rps G vs xs → Rps G us ys → Rps G (vs ++ us) (xs ++ ys)
  | _, _, _, _, .nil, s => s
  | _, _, _, _, .cons r t, s => .cons r (Rps.append t s)
theorem Rps.take {G : Gh} : ∀ {vs : List V} {xs : List D} (n : Nat), Rps G vs xs → Rps G (vs.take n) (xs.take n)
  | _, _, 0, _ => .nil
  | _, _, _ + 1, .nil => .nil
  | _, _, n + 1, .cons r t => .cons r (Rps.take n t)
theorem Rps.drop {G : Gh} : ∀ {vs : List V} {xs : List D} (n : Nat), Rps G vs xs → Rps G (vs.drop n) (xs.drop n)
  | _, _, 0, r => r
  | _, _, _ + 1, .nil => .nil
  | _, _, n + 1, .cons _ t => Rps.drop n t
theorem Rps.length {G : Gh} {vs : List V} {xs : List D} (h : Rps G vs xs) : vs.length = xs.length := Paired.length h
theorem Rps.ints {G : Gh} : ∀ {ns : List Int}, Rps G (ns.map V.int) (ns.map D.int)
  | [] => .nil
  | n :: r => .cons rfl (Rps.ints (ns := r))
theorem Rps.of_ints {G : Gh} : ∀ {vs : List V} {ns : List Int}, Rps G vs (ns.map D.int) → vs = ns.map V.int
  | [], [], _ => rfl
  | _ :: _, [], h => by cases h
  | [], _ :: _, h => by cases h
  | v :: vs, n :: ns, h => by
    cases h with
    | cons r t =>
      have e : v = .int n := r
      rw [e, Rps.of_ints t]
      rfl
/-! ### new objects -/
def gup (G : Gh) (a : Addr) (d : D) : Gh := fun b => if b = a then some d else G b
theorem gup_same {G : Gh} {a : Addr} {d : D} : gup G a d a = some d := if_pos rfl
theorem gup_ne {G : Gh} {a b : Addr} {d : D} (h : b ≠ a) : gup G a d b = G b := if_neg h
theorem Cons.there {G : Gh} {H : Hp} (c : Cons G H) {a : Addr} {d : D} (h : G a = some d) : H a ≠ none := by
  have q := c a d h
  cases d with
  | tup xs => obtain ⟨vs, e, _⟩ := q; rw [e]; exact fun z => nomatch z
  | lst xs => obtain ⟨vs, e, _⟩ := q; rw [e]; exact fun z => nomatch z
  | deal => obtain ⟨b, m, k, e, _⟩ := q; rw [e]; exact fun z => nomatch z
  | cell => obtain ⟨ns, e, _⟩ := q; rw [e]; exact fun z => nomatch z
  | _ => exact q.elim
theorem Cons.free {G : Gh} {H : Hp} (c : Cons G H) {a : Addr} (h : H a = none) : G a = none := by
  cases e : G a with
  | none => rfl
  | some d => exact absurd h (c.there e)
theorem Holds.mono {G G' : Gh} {H H' : Hp} {a : Addr} {d : D} (g : ∀ a d, G a = some d → G' a = some d) (hh : H' a = H a) (h : Holds G H a d) : Holds G' H' a d := by
  cases d with
  | tup xs => obtain ⟨vs, e, q⟩ := h; exact ⟨vs, by rw [hh]; exact e, q.mono g⟩
  | lst xs => obtain ⟨vs, e, q⟩ := h; exact ⟨vs, by rw [hh]; exact e, q.mono g⟩
  | deal => obtain ⟨b, m, k, e, q, r⟩ := h; exact ⟨b, m, k, by rw [hh]; exact e, g _ _ q, r⟩
  | cell => obtain ⟨ns, e, q⟩ := h; exact ⟨ns, by rw [hh]; exact e, q⟩
  | _ => exact h
/-- a ghost for an object that no ghost has yet -/
theorem Cons.put {G : Gh} {H : Hp} (c : Cons G H) {a : Addr} {d : D} (n : G a = none) (h : Holds (gup G a d) H a d) : Cons (gup G a d) H := by
  have g : ∀ b e, G b = some e → gup G a d b = some e := fun b e q => by
    by_cases z : b = a
    · rw [z, n] at q; cases q
    · rw [gup_ne z]; exact q
  intro b e q
  by_cases z : b = a
  · subst z
    rw [gup_same] at q
    cases q
    exact h
  · rw [gup_ne z] at q
    exact (c b e q).mono g rfl
theorem gup_sub {G : Gh} {a : Addr} {d : D} (n : G a = none) : ∀ b e, G b = some e → gup G a d b = some e := fun b e q => by
  by_cases z : b = a
  · rw [z, n] at q; cases q
  · rw [gup_ne z]; exact q
/-- an object that no ghost has is laid or changed -/
theorem Cons.upd {G : Gh} {H : Hp} (c : Cons G H) {a : Addr} {o : HO} (n : G a = none) : Cons G (upd H a o) := fun b e q =>
  (c b e q).mono (fun _ _ z => z) (upd_ne fun z => by rw [z, n] at q; cases q)
theorem Step.new {G : Gh} {H : Hp} {a : Addr} {o : HO} (n : H a = none) : Step G H G (upd H a o) :=
  ⟨fun _ _ e => e, fun b u e m => ⟨by rw [upd_ne (ne_of_none e n)]; exact e, m⟩⟩
theorem new_obj {G : Gh} {H : Hp} (c : Cons G H) {a : Addr} {o : HO} {d : D} (n : H a = none) (h : Holds (gup G a d) (upd H a o) a d) :
    Step G H (gup G a d) (upd H a o) ∧ Cons (gup G a d) (upd H a o) :=
  have gn := c.free n
  ⟨⟨gup_sub gn, fun b u e m => ⟨by rw [upd_ne (ne_of_none e n)]; exact e, by rw [gup_ne (ne_of_none e n)]; exact m⟩⟩, (c.upd gn).put gn h⟩
theorem new_tup {G : Gh} {H : Hp} (c : Cons G H) {a : Addr} {vs : List V} {xs : List D} (n : H a = none) (r : Rps G vs xs) :
    Step G H (gup G a (.tup xs)) (upd H a (.tup vs)) ∧ Cons (gup G a (.tup xs)) (upd H a (.tup vs)) ∧ Rp (gup G a (.tup xs)) (.ref a) (.tup xs) := by
  obtain ⟨s, q⟩ := new_obj (d := .tup xs) (o := .tup vs) c n ⟨vs, upd_same, r.mono (gup_sub (c.free n))⟩
  exact ⟨s, q, a, rfl, gup_same⟩
theorem new_lst {G : Gh} {H : Hp} (c : Cons G H) {a : Addr} {vs : List V} {xs : List D} (n : H a = none) (r : Rps G vs xs) :
    Step G H (gup G a (.lst xs)) (upd H a (.lst vs)) ∧ Cons (gup G a (.lst xs)) (upd H a (.lst vs)) ∧ Rp (gup G a (.lst xs)) (.ref a) (.lst xs) := by
  obtain ⟨s, q⟩ := new_obj (d := .lst xs) (o := .lst vs) c n ⟨vs, upd_same, r.mono (gup_sub (c.free n))⟩
  exact ⟨s, q, a, rfl, gup_same⟩
/-! ### slots -/
/-- what a slot holds: nothing told; data; a list of its own; a dict of its own (keys rows of ints, ints) -/
inductive Sl where
  | no | d (x : D) | own (xs : List D) | dic (kvs : List (List Int × Int))
abbrev En := List Sl
def gt : En → Nat → Sl
  | [], _ => .no
  | s :: _, 0 => s
  | _ :: r, n + 1 => gt r n
def st : En → Nat → Sl → En
  | [], _, _ => []
  | _ :: r, 0, s => s :: r
  | x :: r, n + 1, s => x :: st r n s
theorem st_length : ∀ (ρ : En) (i : Nat) (s : Sl), (st ρ i s).length = ρ.length
  | [], _, _ => rfl
  | _ :: _, 0, _ => rfl
  | _ :: r, n + 1, s => by show (st r n s).length + 1 = r.length + 1; rw [st_length r n s]
theorem gt_st : ∀ (ρ : En) (i j : Nat) (s : Sl), i ≠ j → gt (st ρ i s) j = gt ρ j
  | [], _, _, _, _ => rfl
  | _ :: _, 0, 0, _, h => absurd rfl h
  | _ :: _, 0, _ + 1, _, _ => rfl
  | _ :: _, _ + 1, 0, _, _ => rfl
  | _ :: r, i + 1, j + 1, s, h => gt_st r i j s fun e => h (by rw [e])
theorem gt_st_same : ∀ (ρ : En) (i : Nat) (s : Sl), gt (st ρ i s) i = s ∨ gt (st ρ i s) i = .no
  | [], _, _ => .inr rfl
  | _ :: _, 0, _ => .inl rfl
  | _ :: r, i + 1, s => gt_st_same r i s
theorem gt_st_lt : ∀ (ρ : En) (i : Nat) (s : Sl), i < ρ.length → gt (st ρ i s) i = s
  | [], _, _, h => by cases h
  | _ :: _, 0, _, _ => rfl
  | _ :: r, i + 1, s, h => gt_st_lt r i s (by simpa using h)
theorem gt_ge : ∀ (ρ : En) (i : Nat), ρ.length ≤ i → gt ρ i = .no
  | [], _, _ => rfl
  | _ :: _, 0, h => by simp at h
  | _ :: r, i + 1, h => gt_ge r i (by simpa using h)
def gv (σ : L2.St) (i : Nat) : Option V := (σ[i]?).getD none
theorem gv_some {σ : L2.St} {i : Nat} {v : V} (h : gv σ i = some v) : σ[i]? = some (some v) := by
  unfold gv at h
  cases e : σ[i]? with
  | none => rw [e] at h; cases h
  | some u => rw [e] at h; exact congrArg some h
theorem gv_of {σ : L2.St} {i : Nat} {v : V} (h : σ[i]? = some (some v)) : gv σ i = some v := by unfold gv; rw [h]; rfl
theorem gv_set_ne {σ : L2.St} {i j : Nat} {x : Option V} (h : i ≠ j) : gv (σ.set i x) j = gv σ j := by unfold gv; rw [List.getElem?_set_ne h]
theorem gv_set_same {σ : L2.St} {i : Nat} {x : Option V} (h : i < σ.length) : gv (σ.set i x) i = x := by unfold gv; rw [List.getElem?_set_self h]; rfl
structure Ent where
  G : Gh
  H : Hp
def SlOk (E : Ent) (G : Gh) (H : Hp) (v : Option V) : Sl → Prop
  | .no => True
  | .d x => ∃ u, v = some u ∧ Rp G u x
  | .own xs => ∃ a vs, v = some (.ref a) ∧ H a = some (.lst vs) ∧ Rps G vs xs ∧ G a = none ∧ E.H a = none
  | .dic kvs => ∃ a, v = some (.ref a) ∧ H a = some (.dT (kvs.map fun p => (p.1.map Sum.inl, V.int p.2))) ∧ G a = none ∧ E.H a = none
def isOwn : Sl → Bool
  | .own _ => true
  | .dic _ => true
  | _ => false
structure Rel (E : Ent) (G : Gh) (ρ : En) (σ : L2.St) (H : Hp) : Prop where
  cons : Cons G H
  step : Step E.G E.H G H
  len : ρ.length = σ.length
  slot : ∀ i, SlOk E G H (gv σ i) (gt ρ i)
  apart : ∀ i j a, i ≠ j → isOwn (gt ρ i) = true → isOwn (gt ρ j) = true → gv σ i = some (.ref a) → gv σ j ≠ some (.ref a)
section
variable {E : Ent} {G G' : Gh} {ρ : En} {σ : L2.St} {H H' : Hp}
theorem SlOk.go {v : Option V} {s : Sl} (S : Step G H G' H') (h : SlOk E G H v s) : SlOk E G' H' v s := by
  cases s with
  | no => exact h
  | d x => obtain ⟨u, e, q⟩ := h; exact ⟨u, e, q.mono S.g⟩
  | own xs => obtain ⟨a, vs, e, q, r, n, m⟩ := h; exact ⟨a, vs, e, (S.h a _ q n).1, r.mono S.g, (S.h a _ q n).2, m⟩
  | dic kvs => obtain ⟨a, e, q, n, m⟩ := h; exact ⟨a, e, (S.h a _ q n).1, (S.h a _ q n).2, m⟩
theorem Rel.go (R : Rel E G ρ σ H) (S : Step G H G' H') (c : Cons G' H') : Rel E G' ρ σ H' :=
  ⟨c, R.step.trans S, R.len, fun i => (R.slot i).go S, R.apart⟩
/-- a slot is stored -/
theorem Rel.put (R : Rel E G ρ σ H) {i : Nat} {s : Sl} {v : V} (h : SlOk E G H (some v) s) (ap : isOwn s = true → ∀ j, i ≠ j → isOwn (gt ρ j) = true → gv σ j ≠ some v) : Rel E G (st ρ i s) (σ.set i (some v)) H := by
  refine ⟨R.cons, R.step, by rw [st_length, List.length_set]; exact R.len, fun j => ?_, fun j k a hjk h1 h2 h3 h4 => ?_⟩
  · by_cases e : i = j
    · subst e
      by_cases l : i < σ.length
      · rw [gv_set_same l, gt_st_lt ρ i s (by rw [R.len]; exact l)]
        exact h
      · rw [gt_ge _ _ (by rw [st_length, R.len]; omega)]
        trivial
    · rw [gv_set_ne e, gt_st ρ i j s e]
      exact R.slot j
  · by_cases e : i = j
    · subst e
      have hk : i ≠ k := hjk
      rw [gv_set_ne hk] at h4
      rw [gt_st ρ i k s hk] at h2
      by_cases l : i < σ.length
      · rw [gv_set_same l] at h3
        rw [gt_st_lt ρ i s (by rw [R.len]; exact l)] at h1
        exact ap h1 k hk h2 (by rw [h4, h3])
      · rw [gt_ge _ _ (by rw [st_length, R.len]; omega)] at h1
        cases h1
    · rw [gv_set_ne e] at h3
      rw [gt_st ρ i j s e] at h1
      by_cases e2 : i = k
      · subst e2
        by_cases l : i < σ.length
        · rw [gv_set_same l] at h4
          rw [gt_st_lt ρ i s (by rw [R.len]; exact l)] at h2
          exact ap h2 j e h1 (by rw [h3, h4])
        · rw [gt_ge _ _ (by rw [st_length, R.len]; omega)] at h2
          cases h2
      · rw [gv_set_ne e2] at h4
        rw [gt_st ρ i k s e2] at h2
        exact R.apart j k a hjk h1 h2 h3 h4
theorem Rel.putD (R : Rel E G ρ σ H) {i : Nat} {x : D} {v : V} (h : Rp G v x) : Rel E G (st ρ i (.d x)) (σ.set i (some v)) H :=
  R.put ⟨v, rfl, h⟩ fun z => nomatch z
/-- a slot is forgotten -/
theorem Rel.drop (R : Rel E G ρ σ H) {i : Nat} {x : Option V} : Rel E G (st ρ i .no) (σ.set i x) H := by
  refine ⟨R.cons, R.step, by rw [st_length, List.length_set]; exact R.len, fun j => ?_, fun j k a hjk h1 h2 h3 h4 => ?_⟩
  · by_cases e : i = j
    · subst e
      rcases gt_st_same ρ i .no with q | q <;> (rw [q]; trivial)
    · rw [gv_set_ne e, gt_st ρ i j _ e]
      exact R.slot j
  · have nj : i ≠ j := fun e => by
      subst e
      rcases gt_st_same ρ i .no with q | q <;> (rw [q] at h1; cases h1)
    have nk : i ≠ k := fun e => by
      subst e
      rcases gt_st_same ρ i .no with q | q <;> (rw [q] at h2; cases h2)
    rw [gv_set_ne nj] at h3
    rw [gv_set_ne nk] at h4
    rw [gt_st ρ i j _ nj] at h1
    rw [gt_st ρ i k _ nk] at h2
    exact R.apart j k a hjk h1 h2 h3 h4
/-- a slot is forgotten, the value stays -/
theorem Rel.forget (R : Rel E G ρ σ H) {i : Nat} : Rel E G (st ρ i .no) σ H := by
  refine ⟨R.cons, R.step, by rw [st_length]; exact R.len, fun j => ?_, fun j k a hjk h1 h2 h3 h4 => ?_⟩
  · by_cases e : i = j
    · subst e
      rcases gt_st_same ρ i .no with q | q <;> (rw [q]; trivial)
    · rw [gt_st ρ i j _ e]
      exact R.slot j
  · have nj : i ≠ j := fun e => by
      subst e
      rcases gt_st_same ρ i .no with q | q <;> (rw [q] at h1; cases h1)
    have nk : i ≠ k := fun e => by
      subst e
      rcases gt_st_same ρ i .no with q | q <;> (rw [q] at h2; cases h2)
    rw [gt_st ρ i j _ nj] at h1
    rw [gt_st ρ i k _ nk] at h2
    exact R.apart j k a hjk h1 h2 h3 h4
end
/-! ### judgements over data -/
abbrev TEd := En → (D → Prop) → Prop
abbrev TTd := En → (Bool → Prop) → Prop
abbrev TAd := En → (List D → Prop) → Prop
/-- what may come of an expression -/
abbrev Outc (G : Gh) (H : Hp) (Qd : D → Prop) (Q : VK) : Prop := ∀ d, Qd d → ∀ v G' H', Step G H G' H' → Cons G' H' → Rp G' v d → Q v H'
def liftE (E : Ent) (t : TEd) : TE := fun σ H Q => ∃ G ρ Qd, Rel E G ρ σ H ∧ t ρ Qd ∧ Outc G H Qd Q
def liftT (E : Ent) (t : TTd) : TT := fun σ H Q => ∃ G ρ Qd, Rel E G ρ σ H ∧ t ρ Qd ∧ ∀ b, Qd b → ∀ G' H', Step G H G' H' → Cons G' H' → Q b H'
def liftA (E : Ent) (t : TAd) : TA := fun σ H Q => ∃ G ρ Qd, Rel E G ρ σ H ∧ t ρ Qd ∧ ∀ ds, Qd ds → ∀ vs G' H', Step G H G' H' → Cons G' H' → Rps G' vs ds → Q vs H'
abbrev PEc (X : Cx) (E : Ent) (e : Expr) (t : TEd) : Prop := PE X e (liftE E t)
abbrev PTc (X : Cx) (E : Ent) (e : Expr) (t : TTd) : Prop := PT X e (liftT E t)
abbrev PWc (X : Cx) (E : Ent) (e : Expr) (t : TTd) : Prop := PW X e (liftT E t)
abbrev PAc (X : Cx) (E : Ent) (es : List Expr) (t : TAd) : Prop := PA X es (liftA E t)
theorem PE.imp {X : Cx} {e : Expr} {t t' : TE} (h : PE X e t) (i : ∀ σ H Q, t' σ H Q → t σ H Q) : PE X e t' := ⟨fun pins s σ H Q I q => h.run pins s σ H Q I (i σ H Q q)⟩
theorem PT.imp {X : Cx} {e : Expr} {t t' : TT} (h : PT X e t) (i : ∀ σ H Q, t' σ H Q → t σ H Q) : PT X e t' := ⟨fun pins s σ H Q I q => h.run pins s σ H Q I (i σ H Q q)⟩
theorem PW.imp {X : Cx} {e : Expr} {t t' : TT} (h : PW X e t) (i : ∀ σ H Q, t' σ H Q → t σ H Q) : PW X e t' := ⟨fun wh pins s σ H Q I q => h.run wh pins s σ H Q I (i σ H Q q)⟩
theorem PA.imp {X : Cx} {e : List Expr} {t t' : TA} (h : PA X e t) (i : ∀ σ H Q, t' σ H Q → t σ H Q) : PA X e t' := ⟨fun pos pins s σ H Q I q => h.run pos pins s σ H Q I (i σ H Q q)⟩
theorem PS.imp {X : Cx} {e : Stmt} {t t' : TS} (h : PS X e t) (i : ∀ D σ H, t' D σ H → t D σ H) : PS X e t' := ⟨fun pins s σ H D I q => h.run pins s σ H D I (i D σ H q)⟩
theorem PSs.imp {X : Cx} {e : List Stmt} {t t' : TS} (h : PSs X e t) (i : ∀ D σ H, t' D σ H → t D σ H) : PSs X e t' := ⟨fun pins s σ H D I q => h.run pins s σ H D I (i D σ H q)⟩
/-- what is wanted behind a statement, over data -/
structure Es where
  nx : En → Prop
  rt : D → Prop
  bk : En → Prop := fun _ => False
  ct : En → Prop := fun _ => False
abbrev TSd := Es → En → Prop
abbrev GSub (G G' : Gh) : Prop := ∀ a d, G a = some d → G' a = some d
structure EsOk (E : Ent) (G : Gh) (d : Es) (D : Ends) : Prop where
  nx : ∀ ρ, d.nx ρ → ∀ G' σ H, GSub G G' → Rel E G' ρ σ H → D.nx σ H
  rt : ∀ x, d.rt x → ∀ v G H, Step E.G E.H G H → Cons G H → Rp G v x → D.rt v H
  bk : ∀ ρ, d.bk ρ → ∀ G' σ H, GSub G G' → Rel E G' ρ σ H → D.bk σ H
  ct : ∀ ρ, d.ct ρ → ∀ G' σ H, GSub G G' → Rel E G' ρ σ H → D.ct σ H
theorem EsOk.sub {E : Ent} {G G' : Gh} {d : Es} {D : Ends} (o : EsOk E G d D) (g : GSub G G') : EsOk E G' d D :=
  ⟨fun ρ h G2 σ H g2 R => o.nx ρ h G2 σ H (fun a d e => g2 a d (g a d e)) R, o.rt, fun ρ h G2 σ H g2 R => o.bk ρ h G2 σ H (fun a d e => g2 a d (g a d e)) R, fun ρ h G2 σ H g2 R => o.ct ρ h G2 σ H (fun a d e => g2 a d (g a d e)) R⟩
def liftS (E : Ent) (t : TSd) : TS := fun D σ H => ∃ G ρ d, Rel E G ρ σ H ∧ t d ρ ∧ EsOk E G d D
abbrev PSc (X : Cx) (E : Ent) (st : Stmt) (t : TSd) : Prop := PS X st (liftS E t)
abbrev PSsc (X : Cx) (E : Ent) (st : List Stmt) (t : TSd) : Prop := PSs X st (liftS E t)
section
variable {X : Cx} {E : Ent} {e a b c : Expr} {ta tb tc : TEd} {tA tB : TTd} {pos : Pos}
theorem liftE_mk {t : TEd} {G : Gh} {ρ : En} {σ : L2.St} {H : Hp} {Qd : D → Prop} {Q : VK} (R : Rel E G ρ σ H) (h : t ρ Qd) (o : Outc G H Qd Q) : liftE E t σ H Q := ⟨G, ρ, Qd, R, h, o⟩
/-! ### names and constants -/
def dVar (i : Nat) : TEd := fun ρ Q => match gt ρ i with
  | .d x => Q x
  | _ => False
def dC (d : D) : TEd := fun _ Q => Q d
theorem pec_var {i : Nat} {x : Str} {pos : Pos} (hN : X.N[i]? = some x := by rfl) (hv : Vis X.env.scope x := by first | exact .inl rfl | exact .inr (.inl rfl) | exact .inr (.inr rfl)) (hd : (x == ("__debug__" : Str)) = false := by decide) (hcd : (x == ("__classdict__" : Str)) = false := by decide) : PEc X E (.Name x pos) (dVar i) := by
  refine PE.imp (pe_var hN hv hd hcd) fun σ H Q h => ?_
  obtain ⟨G, ρ, Qd, R, h, o⟩ := h
  unfold dVar at h
  have s := R.slot i
  cases q : gt ρ i with
  | d x =>
    rw [q] at h s
    obtain ⟨u, e, r⟩ := s
    exact ⟨u, gv_some e, o x h u G H .refl R.cons r⟩
  | no => rw [q] at h; exact h.elim
  | own xs => rw [q] at h; exact h.elim
  | dic xs => rw [q] at h; exact h.elim
theorem pec_int {i j pos} : PEc X E (.Constant (.int i) j pos) (dC (.int i)) := PE.imp pe_int fun _ H _ ⟨G, _, _, R, h, o⟩ => o _ h _ G H .refl R.cons rfl
theorem pec_bl {b j pos} : PEc X E (.Constant (.bool b) j pos) (dC (.bl b)) := PE.imp pe_bl fun _ H _ ⟨G, _, _, R, h, o⟩ => o _ h _ G H .refl R.cons rfl
theorem pec_non {j pos} : PEc X E (.Constant .none j pos) (dC .non) := PE.imp pe_non fun _ H _ ⟨G, _, _, R, h, o⟩ => o _ h _ G H .refl R.cons rfl
theorem pec_str {x j pos} : PEc X E (.Constant (.str x) j pos) (dC (.str x)) := PE.imp pe_str fun _ H _ ⟨G, _, _, R, h, o⟩ => o _ h _ G H .refl R.cons rfl
/-- a module's constant: an int, a text -/
theorem pec_globI {x : Str} {i : Int} {t : Tok} {pos : Pos} (hg : Gl X x) (hm : X.mg x = some (.int i t)) (hd : (x == ("__debug__" : Str)) = false := by decide) : PEc X E (.Name x pos) (dC (.int i)) :=
  PE.imp (pe_glob (v := .int i) hg hm ⟨t, rfl⟩ hd) fun _ H _ ⟨G, _, _, R, h, o⟩ => o _ h _ G H .refl R.cons rfl
theorem pec_globS {x z : Str} {t : Tok} {pos : Pos} (hg : Gl X x) (hm : X.mg x = some (.str z t)) (hd : (x == ("__debug__" : Str)) = false := by decide) : PEc X E (.Name x pos) (dC (.str z)) :=
  PE.imp (pe_glob (v := .str z) hg hm ⟨t, rfl⟩ hd) fun _ H _ ⟨G, _, _, R, h, o⟩ => o _ h _ G H .refl R.cons rfl
/-! ### two operands -/
abbrev R2d := D → D → (D → Prop) → Prop
/-- a rule by values serves a rule by data -/
def Fit2 (r : R2) (rd : R2d) : Prop := ∀ G H x y a b Qd Q, Cons G H → Rp G x a → Rp G y b → rd a b Qd → Outc G H Qd Q → r x y H Q
def dOp (rd : R2d) (ta tb : TEd) : TEd := fun ρ Q => ta ρ fun x => tb ρ fun y => rd x y Q
theorem lift2 {r : R2} {rd : R2d} (f : Fit2 r rd) {σ : L2.St} {H : Hp} {Q : VK} (h : liftE E (dOp rd ta tb) σ H Q) : tOp r (liftE E ta) (liftE E tb) σ H Q := by
  obtain ⟨G, ρ, Qd, R, h, o⟩ := h
  refine ⟨G, ρ, _, R, h, fun x hx v G1 H1 S1 c1 r1 => ?_⟩
  refine ⟨G1, ρ, _, R.go S1 c1, hx, fun y hy u G2 H2 S2 c2 r2 => ?_⟩
  exact f G2 H2 v u x y Qd Q c2 (r1.mono S2.g) r2 hy fun d hd w G3 H3 S3 c3 r3 => o d hd w G3 H3 ((S1.trans S2).trans S3) c3 r3
theorem pec_op {op : Operator} {r : R2} {rd : R2d} (ho : OpR X (binaryOp op) r) (f : Fit2 r rd) (ha : PEc X E a ta) (hb : PEc X E b tb) : PEc X E (.BinOp a op b pos) (dOp rd ta tb) :=
  PE.imp (pe_op ho ha hb) fun _ _ _ h => lift2 f h
theorem pec_cmp {op : CmpOp} {r : R2} {rd : R2d} (ho : OpR X (compareOp op) r) (f : Fit2 r rd) (ha : PEc X E a ta) (hb : PEc X E b tb) (hm : behindInMarks op b = false := by first | exact nobehind _ (by decide) (by decide) | rfl) : PEc X E (.Compare a [op] [b] pos) (dOp rd ta tb) :=
  PE.imp (pe_cmpR ho ha hb hm) fun _ _ _ h => lift2 f h
/-- two rules for one operation -/
theorem OpR.or {f : Value → Value → Sem Value} {r r' : R2} (h : OpR X f r) (h' : OpR X f r') : OpR X f fun x y H Q => r x y H Q ∨ r' x y H Q := by
  intro pins s σ H x y v u Q I rx ry q
  rcases q with q | q
  · exact h pins s σ H x y v u Q I rx ry q
  · exact h' pins s σ H x y v u Q I rx ry q
/-- ints in, a value that is no object out -/
theorem fitI {C : Int → Int → Prop} {g : Int → Int → V} {gd : Int → Int → D} (hg : ∀ i j G, Rp G (g i j) (gd i j)) : Fit2 (rI C g) fun a b Q => match a, b with
    | .int i, .int j => C i j ∧ Q (gd i j)
    | _, _ => False := by
  intro G H x y a b Qd Q c rx ry h o
  cases a with
  | int i =>
    cases b with
    | int j =>
      cases (show x = .int i from rx)
      cases (show y = .int j from ry)
      exact ⟨i, j, rfl, rfl, h.1, o _ h.2 _ G H .refl c (hg i j G)⟩
    | _ => exact h.elim
  | _ => exact h.elim
theorem fitI0 {g : Int → Int → V} {gd : Int → Int → D} (hg : ∀ i j G, Rp G (g i j) (gd i j)) : Fit2 (rI0 g) fun a b Q => match a, b with
    | .int i, .int j => Q (gd i j)
    | _, _ => False := by
  intro G H x y a b Qd Q c rx ry h o
  cases a with
  | int i =>
    cases b with
    | int j =>
      cases (show x = .int i from rx)
      cases (show y = .int j from ry)
      exact ⟨i, j, rfl, rfl, o _ h _ G H .refl c (hg i j G)⟩
    | _ => exact h.elim
  | _ => exact h.elim
def II (C : Int → Int → Prop) (g : Int → Int → D) : R2d := fun a b Q => match a, b with
  | .int i, .int j => C i j ∧ Q (g i j)
  | _, _ => False
def II0 (g : Int → Int → D) : R2d := fun a b Q => match a, b with
  | .int i, .int j => Q (g i j)
  | _, _ => False
theorem pec_sub (ha : PEc X E a ta) (hb : PEc X E b tb) : PEc X E (.BinOp a .Sub b pos) (dOp (II0 fun i j => .int (i - j)) ta tb) := pec_op op_sub (fitI0 fun _ _ _ => rfl) ha hb
theorem pec_addI (ha : PEc X E a ta) (hb : PEc X E b tb) : PEc X E (.BinOp a .Add b pos) (dOp (II0 fun i j => .int (i + j)) ta tb) := pec_op op_add (fitI0 fun _ _ _ => rfl) ha hb
theorem pec_mul (ha : PEc X E a ta) (hb : PEc X E b tb) : PEc X E (.BinOp a .Mult b pos) (dOp (II CMulW fun i j => .int (i * j)) ta tb) := pec_op op_mulW (fitI fun _ _ _ => rfl) ha hb
theorem pec_div (ha : PEc X E a ta) (hb : PEc X E b tb) : PEc X E (.BinOp a .FloorDiv b pos) (dOp (II CDivW fun i j => .int (i / j)) ta tb) := pec_op op_fdivW (fitI fun _ _ _ => rfl) ha hb
theorem pec_mod (ha : PEc X E a ta) (hb : PEc X E b tb) : PEc X E (.BinOp a .Mod b pos) (dOp (II (fun _ j => 0 < j) fun i j => .int (i % j)) ta tb) := pec_op op_mod (fitI fun _ _ _ => rfl) ha hb
theorem pec_pow (ha : PEc X E a ta) (hb : PEc X E b tb) : PEc X E (.BinOp a .Pow b pos) (dOp (II CPow fun i j => .int (i ^ j.toNat)) ta tb) := pec_op op_pow (fitI fun _ _ _ => rfl) ha hb
theorem pec_shr (ha : PEc X E a ta) (hb : PEc X E b tb) : PEc X E (.BinOp a .RShift b pos) (dOp (II (fun _ j => 0 ≤ j) fun i j => .int (i / 2 ^ j.toNat)) ta tb) := pec_op op_shr (fitI fun _ _ _ => rfl) ha hb
def SSl : R2d := fun a b Q => match a, b with
  | .str x, .str y => x.length + y.length ≤ sizeLine ∧ Q (.str (x ++ y))
  | _, _ => False
theorem pec_addS (ha : PEc X E a ta) (hb : PEc X E b tb) : PEc X E (.BinOp a .Add b pos) (dOp SSl ta tb) := by
  refine pec_op op_add_str ?_ ha hb
  intro G H x y a b Qd Q c rx ry h o
  cases a with
  | str i =>
    cases b with
    | str j =>
      cases (show x = .str i from rx)
      cases (show y = .str j from ry)
      exact ⟨i, j, rfl, rfl, h.1, o _ h.2 _ G H .refl c rfl⟩
    | _ => exact h.elim
  | _ => exact h.elim
/-- comparisons of ints -/
theorem pec_lt (ha : PEc X E a ta) (hb : PEc X E b tb) : PEc X E (.Compare a [.Lt] [b] pos) (dOp (II0 fun i j => .bl (decide (i < j))) ta tb) := pec_cmp op_lt (fitI0 fun _ _ _ => rfl) ha hb
theorem pec_le (ha : PEc X E a ta) (hb : PEc X E b tb) : PEc X E (.Compare a [.LtE] [b] pos) (dOp (II0 fun i j => .bl (decide (i ≤ j))) ta tb) := pec_cmp op_le (fitI0 fun _ _ _ => rfl) ha hb
theorem pec_gt (ha : PEc X E a ta) (hb : PEc X E b tb) : PEc X E (.Compare a [.Gt] [b] pos) (dOp (II0 fun i j => .bl (decide (j < i))) ta tb) := pec_cmp op_gt (fitI0 fun _ _ _ => rfl) ha hb
theorem pec_ge (ha : PEc X E a ta) (hb : PEc X E b tb) : PEc X E (.Compare a [.GtE] [b] pos) (dOp (II0 fun i j => .bl (decide (j ≤ i))) ta tb) := pec_cmp op_ge (fitI0 fun _ _ _ => rfl) ha hb
/-! ### one operand -/
abbrev R1d := D → (D → Prop) → Prop
def dUn (rd : R1d) (ta : TEd) : TEd := fun ρ Q => ta ρ fun x => rd x Q
def Fit1 (r : V → Hp → VK → Prop) (rd : R1d) : Prop := ∀ G H x a Qd Q, Cons G H → Rp G x a → rd a Qd → Outc G H Qd Q → r x H Q
theorem lift1 {r : V → Hp → VK → Prop} {rd : R1d} (f : Fit1 r rd) {σ : L2.St} {H : Hp} {Q : VK} (h : liftE E (dUn rd ta) σ H Q) : tUn r (liftE E ta) σ H Q := by
  obtain ⟨G, ρ, Qd, R, h, o⟩ := h
  refine ⟨G, ρ, _, R, h, fun x hx v G1 H1 S1 c1 r1 => ?_⟩
  exact f G1 H1 v x Qd Q c1 r1 hx fun d hd w G3 H3 S3 c3 r3 => o d hd w G3 H3 (S1.trans S3) c3 r3
def N1 : R1d := fun a Q => match a with
  | .int i => Q (.int (-i))
  | _ => False
theorem pec_neg (ha : PEc X E a ta) : PEc X E (.UnaryOp .USub a pos) (dUn N1 ta) := by
  refine PE.imp (pe_un un_neg ha) fun _ _ _ h => lift1 ?_ h
  intro G H x a Qd Q c rx h o
  cases a with
  | int i => exact ⟨i, rx, o _ h _ G H .refl c rfl⟩
  | _ => exact h.elim
/-! ### tests -/
def asB (Q : Bool → Prop) : D → Prop
  | .bl b => Q b
  | _ => False
def dB (t : TEd) : TTd := fun ρ Q => t ρ (asB Q)
theorem ptc_val {t : TEd} (h : PEc X E e t) (he : ∀ whole, isTrue e X.env whole = (do let v ← whole; standAt e.pos; holding [v] (truthy v)) := by intro _; rfl) : PTc X E e (dB t) := by
  refine PT.imp (pt_val h he) fun σ H Q q => ?_
  obtain ⟨G, ρ, Qd, R, h, o⟩ := q
  refine ⟨G, ρ, _, R, h, fun d hd v G' H' S c r => ?_⟩
  cases d with
  | bl b => exact ⟨b, r, o b hd G' H' S c⟩
  | _ => exact (show False from hd).elim
theorem ptc_cmp {op : CmpOp} {t : TEd} (h : PEc X E (.Compare a [op] [b] pos) t) (he : ∀ whole, isTrue (.Compare a [op] [b] pos) X.env whole = (do let v ← whole; standAt pos; holding [v] (truthy v)) := by intro _; rfl) : PTc X E (.Compare a [op] [b] pos) (dB t) := ptc_val h he
def dAnd (t u : TTd) : TTd := fun ρ Q => t ρ fun c => (c = true → u ρ Q) ∧ (c = false → Q false)
def dOr (t u : TTd) : TTd := fun ρ Q => t ρ fun c => (c = true → Q true) ∧ (c = false → u ρ Q)
def dNot (t : TTd) : TTd := fun ρ Q => t ρ fun c => Q (!c)
theorem pwc_and1 (ha : PTc X E a tA) : PWc X E (.BoolOp .And [a] pos) tA := pw_and1 ha
theorem pwc_or1 (ha : PTc X E a tA) : PWc X E (.BoolOp .Or [a] pos) tA := pw_or1 ha
theorem pwc_and {rest : List Expr} (ha : PTc X E a tA) (hb : PWc X E (.BoolOp .And (b :: rest) pos) tB) : PWc X E (.BoolOp .And (a :: b :: rest) pos) (dAnd tA tB) := by
  refine PW.imp (pw_and ha hb) fun σ H Q q => ?_
  obtain ⟨G, ρ, Qd, R, h, o⟩ := q
  refine ⟨G, ρ, _, R, h, fun c hc G' H' S k => ?_⟩
  cases c with
  | true => rw [if_pos rfl]; exact ⟨G', ρ, Qd, R.go S k, hc.1 rfl, fun b hb G2 H2 S2 k2 => o b hb G2 H2 (S.trans S2) k2⟩
  | false => rw [if_neg Bool.false_ne_true]; exact o false (hc.2 rfl) G' H' S k
theorem pwc_or {rest : List Expr} (ha : PTc X E a tA) (hb : PWc X E (.BoolOp .Or (b :: rest) pos) tB) : PWc X E (.BoolOp .Or (a :: b :: rest) pos) (dOr tA tB) := by
  refine PW.imp (pw_or ha hb) fun σ H Q q => ?_
  obtain ⟨G, ρ, Qd, R, h, o⟩ := q
  refine ⟨G, ρ, _, R, h, fun c hc G' H' S k => ?_⟩
  cases c with
  | false => rw [if_neg Bool.false_ne_true]; exact ⟨G', ρ, Qd, R.go S k, hc.2 rfl, fun b hb G2 H2 S2 k2 => o b hb G2 H2 (S.trans S2) k2⟩
  | true => rw [if_pos rfl]; exact o true (hc.1 rfl) G' H' S k
theorem ptc_not (ha : PTc X E a tA) : PTc X E (.UnaryOp .Not a pos) (dNot tA) := by
  refine PT.imp (pt_not ha) fun σ H Q q => ?_
  obtain ⟨G, ρ, Qd, R, h, o⟩ := q
  exact ⟨G, ρ, _, R, h, fun c hc G' H' S k => o (!c) hc G' H' S k⟩
theorem PWc.pt (h : PWc X E e tA) : PTc X E e tA := PW.pt h
/-- as values -/
def dAndV (ta tb : TEd) : TEd := fun ρ Q => ta ρ (asB fun c => (c = true → tb ρ Q) ∧ (c = false → Q (.bl false)))
def dOrV (ta tb : TEd) : TEd := fun ρ Q => ta ρ (asB fun c => (c = true → Q (.bl true)) ∧ (c = false → tb ρ Q))
def dNotV (ta : TEd) : TEd := fun ρ Q => ta ρ (asB fun c => Q (.bl (!c)))
theorem pec_one {op} {t : TEd} (h : PEc X E a t) : PEc X E (.BoolOp op [a] pos) t := pe_one h
theorem pec_and {rest : List Expr} (ha : PEc X E a ta) (hb : PEc X E (.BoolOp .And (b :: rest) pos) tb) : PEc X E (.BoolOp .And (a :: b :: rest) pos) (dAndV ta tb) := by
  refine PE.imp (pe_and ha hb) fun σ H Q q => ?_
  obtain ⟨G, ρ, Qd, R, h, o⟩ := q
  refine ⟨G, ρ, _, R, h, fun d hd v G' H' S c r => ?_⟩
  cases d with
  | bl b =>
    refine ⟨b, r, ?_⟩
    cases b with
    | true => rw [if_pos rfl]; exact ⟨G', ρ, Qd, R.go S c, hd.1 rfl, fun b hb w G2 H2 S2 c2 r2 => o b hb w G2 H2 (S.trans S2) c2 r2⟩
    | false => rw [if_neg Bool.false_ne_true]; exact o _ (hd.2 rfl) _ G' H' S c rfl
  | _ => exact (show False from hd).elim
theorem pec_or {rest : List Expr} (ha : PEc X E a ta) (hb : PEc X E (.BoolOp .Or (b :: rest) pos) tb) : PEc X E (.BoolOp .Or (a :: b :: rest) pos) (dOrV ta tb) := by
  refine PE.imp (pe_or ha hb) fun σ H Q q => ?_
  obtain ⟨G, ρ, Qd, R, h, o⟩ := q
  refine ⟨G, ρ, _, R, h, fun d hd v G' H' S c r => ?_⟩
  cases d with
  | bl b =>
    refine ⟨b, r, ?_⟩
    cases b with
    | false => rw [if_neg Bool.false_ne_true]; exact ⟨G', ρ, Qd, R.go S c, hd.2 rfl, fun b hb w G2 H2 S2 c2 r2 => o b hb w G2 H2 (S.trans S2) c2 r2⟩
    | true => rw [if_pos rfl]; exact o _ (hd.1 rfl) _ G' H' S c rfl
  | _ => exact (show False from hd).elim
theorem pec_not (ha : PEc X E a ta) : PEc X E (.UnaryOp .Not a pos) (dNotV ta) := by
  refine PE.imp (pe_not ha) fun σ H Q q => ?_
  obtain ⟨G, ρ, Qd, R, h, o⟩ := q
  refine ⟨G, ρ, _, R, h, fun d hd v G' H' S c r => ?_⟩
  cases d with
  | bl b => exact ⟨b, r, o _ hd _ G' H' S c rfl⟩
  | _ => exact (show False from hd).elim
def dIf (t : TTd) (ta tb : TEd) : TEd := fun ρ Q => t ρ fun c => (c = true → ta ρ Q) ∧ (c = false → tb ρ Q)
theorem pec_ifExp (hc : PTc X E c tA) (ha : PEc X E a ta) (hb : PEc X E b tb) : PEc X E (.IfExp c a b pos) (dIf tA ta tb) := by
  refine PE.imp (pe_ifExp hc ha hb) fun σ H Q q => ?_
  obtain ⟨G, ρ, Qd, R, h, o⟩ := q
  refine ⟨G, ρ, _, R, h, fun c hc G' H' S k => ?_⟩
  cases c with
  | true => rw [if_pos rfl]; exact ⟨G', ρ, Qd, R.go S k, hc.1 rfl, fun b hb w G2 H2 S2 c2 r2 => o b hb w G2 H2 (S.trans S2) c2 r2⟩
  | false => rw [if_neg Bool.false_ne_true]; exact ⟨G', ρ, Qd, R.go S k, hc.2 rfl, fun b hb w G2 H2 S2 c2 r2 => o b hb w G2 H2 (S.trans S2) c2 r2⟩
end
end Cc
set_option Elab.async false
set_option linter.all false
set_option maxRecDepth 100000
set_option maxHeartbeats 2000000
/-! LayB: arguments, displays, subscripts, equality, calls, statements, loops, comprehensions over data. -/
namespace Cc
open PySem PySem.Spec PyProof.Rows L2
section
variable {X : Cx} {E : Ent} {e a b c : Expr} {es : List Expr} {ta tb tc te : TEd} {tA tB : TTd} {t tr : TAd} {pos : Pos}
/-! ### argument lists, displays -/
def dNil : TAd := fun _ Q => Q []
def dCons (ta : TEd) (tr : TAd) : TAd := fun ρ Q => ta ρ fun x => tr ρ fun xs => Q (x :: xs)
theorem pac_nil : PAc X E [] dNil := PA.imp pa_nil fun _ H _ ⟨G, _, _, R, h, o⟩ => o _ h _ G H .refl R.cons .nil
theorem pac_cons (ha : PEc X E e te) (hr : PAc X E es t) (hs : starEach (e :: es) X.env = (false, eval e X.env) :: starEach es X.env := by rfl) : PAc X E (e :: es) (dCons te t) := by
  refine PA.imp (pa_cons ha hr hs) fun σ H Q q => ?_
  obtain ⟨G, ρ, Qd, R, h, o⟩ := q
  refine ⟨G, ρ, _, R, h, fun x hx v G1 H1 S1 c1 r1 => ⟨G1, ρ, _, R.go S1 c1, hx, fun xs hxs vs G2 H2 S2 c2 r2 => o _ hxs _ G2 H2 (S1.trans S2) c2 (.cons (r1.mono S2.g) r2)⟩⟩
/-- (a, b, ..), [a, b, ..] kept as data -/
def dTup (t : TAd) : TEd := fun ρ Q => t ρ fun xs => Nat.ble xs.length 1000 = true ∧ Q (.tup xs)
def dLst (t : TAd) : TEd := fun ρ Q => t ρ fun xs => Nat.ble xs.length 1000 = true ∧ Q (.lst xs)
theorem len_line {n : Nat} (h : Nat.ble n 1000 = true) : n ≤ sizeLine := Nat.le_trans (Nat.le_of_ble_eq_true h) (by decide)
theorem pec_tup {x1} (h : PAc X E es t) : PEc X E (.Tuple es x1 pos) (dTup t) := by
  refine PE.imp (pe_tup h) fun σ H Q q => ?_
  obtain ⟨G, ρ, Qd, R, h, o⟩ := q
  refine ⟨G, ρ, _, R, h, fun xs hx vs G1 H1 S1 c1 r1 => ⟨by rw [r1.length]; exact len_line hx.1, fun p np => ?_⟩⟩
  obtain ⟨s, c, r⟩ := new_tup c1 np r1
  exact o _ hx.2 _ _ _ (S1.trans s) c r
theorem pec_lst (h : PAc X E es t) : PEc X E (.List es pos) (dLst t) := by
  refine PE.imp (pe_lst h) fun σ H Q q => ?_
  obtain ⟨G, ρ, Qd, R, h, o⟩ := q
  refine ⟨G, ρ, _, R, h, fun xs hx vs G1 H1 S1 c1 r1 => ⟨by rw [r1.length]; exact len_line hx.1, fun p np => ?_⟩⟩
  obtain ⟨s, c, r⟩ := new_lst c1 np r1
  exact o _ hx.2 _ _ _ (S1.trans s) c r
/-! ### what stands at a tuple, a list -/
theorem Cons.tup {G : Gh} {H : Hp} (c : Cons G H) {K : PySem.W.Frag} {v : V} {xs : List D} (r : Rp G v (.tup xs)) : ∃ a vs, v = .ref a ∧ G a = some (.tup xs) ∧ SqT K H a vs ∧ Rps G vs xs := by
  obtain ⟨a, e, g⟩ := r
  obtain ⟨vs, h, q⟩ := c a _ g
  exact ⟨a, vs, e, g, SqT.of h, q⟩
theorem Cons.lst {G : Gh} {H : Hp} (c : Cons G H) {K : PySem.W.Frag} {v : V} {xs : List D} (r : Rp G v (.lst xs)) : ∃ a vs, v = .ref a ∧ G a = some (.lst xs) ∧ SqL K H a vs ∧ Rps G vs xs := by
  obtain ⟨a, e, g⟩ := r
  obtain ⟨vs, h, q⟩ := c a _ g
  exact ⟨a, vs, e, g, SqL.of h, q⟩
/-! ### subscripts -/
def nth : List D → Nat → (D → Prop) → Prop
  | [], _, _ => False
  | x :: _, 0, Q => Q x
  | _ :: r, n + 1, Q => nth r n Q
theorem nth_get : ∀ {xs : List D} {n : Nat} {Q : D → Prop}, nth xs n Q → ∃ x, xs[n]? = some x ∧ Q x
  | [], _, _, h => h.elim
  | x :: _, 0, _, h => ⟨x, rfl, h⟩
  | _ :: r, n + 1, _, h => by
    obtain ⟨x, e, q⟩ := nth_get (xs := r) h
    exact ⟨x, by simpa using e, q⟩
theorem nth_of : ∀ {xs : List D} {n : Nat} {Q : D → Prop} {x : D}, xs[n]? = some x → Q x → nth xs n Q
  | [], _, _, _, e, _ => by simp at e
  | x :: _, 0, _, _, e, q => by simp at e; subst e; exact q
  | _ :: r, n + 1, _, _, e, q => nth_of (xs := r) (by simpa using e) q
theorem atI_len {α β : Type} {xs : List α} {ys : List β} (h : xs.length = ys.length) {i : Int} {x : α} (e : atI xs i = some x) : ∃ j : Nat, xs[j]? = some x ∧ ∀ y : β, ys[j]? = some y → atI ys i = some y := by
  unfold atI at e ⊢
  cases q : ixN xs.length i with
  | none => rw [q] at e; cases e
  | some j =>
    rw [q] at e
    refine ⟨j, e, fun y hy => ?_⟩
    rw [← h, q]
    exact hy
/-- t[k], k a written place -/
def dItem (k : Nat) (ta : TEd) : TEd := fun ρ Q => ta ρ fun x => match x with
  | .tup xs => nth xs k Q
  | .lst xs => nth xs k Q
  | _ => False
theorem pec_item {k : Nat} {j p} (ha : PEc X E a ta) : PEc X E (.Subscript a (.Constant (.int (k : Int)) j p) pos) (dItem k ta) := by
  refine PE.imp (pe_ix ix_seq ha (pec_int (E := E)) (fun _ _ => rfl)) fun σ H Q q => ?_
  obtain ⟨G, ρ, Qd, R, h, o⟩ := q
  refine ⟨G, ρ, _, R, h, fun x hx v G1 H1 S1 c1 r1 => ?_⟩
  refine ⟨G1, ρ, fun d => d = .int (k : Int), R.go S1 c1, rfl, fun d hd u G2 H2 S2 c2 r2 => ?_⟩
  subst hd
  have hu : u = .int (k : Int) := r2
  subst hu
  cases x with
  | tup xs =>
    obtain ⟨d, e, q⟩ := nth_get (show nth xs k Qd from hx)
    obtain ⟨a, vs, rfl, g, hs, rr⟩ := c2.tup (K := X.K) (r1.mono S2.g)
    obtain ⟨w, ew, rw'⟩ := rr.get e
    exact .inr (.inl ⟨a, vs, k, w, rfl, rfl, hs, atI_nat ew, o d q w G2 H2 (S1.trans S2) c2 rw'⟩)
  | lst xs =>
    obtain ⟨d, e, q⟩ := nth_get (show nth xs k Qd from hx)
    obtain ⟨a, vs, rfl, g, hs, rr⟩ := c2.lst (K := X.K) (r1.mono S2.g)
    obtain ⟨w, ew, rw'⟩ := rr.get e
    exact .inl ⟨a, vs, k, w, rfl, rfl, hs, atI_nat ew, o d q w G2 H2 (S1.trans S2) c2 rw'⟩
  | _ => exact (show False from hx).elim
/-- x[i] -/
def IxD : R2d := fun x y Q => match x, y with
  | .tup xs, .int i => ∃ d, atI xs i = some d ∧ Q d
  | .lst xs, .int i => ∃ d, atI xs i = some d ∧ Q d
  | .str z, .int i => ∃ k, z.length ≤ sizeLine ∧ atI z.cps.toList i = some k ∧ Q (.str ⟨#[k]⟩)
  | _, _ => False
theorem pec_ix (ha : PEc X E a ta) (hb : PEc X E b tb) (hs : PlainIx b) : PEc X E (.Subscript a b pos) (dOp IxD ta tb) := by
  refine PE.imp (pe_ix ix_seq ha hb hs) fun σ H Q q => lift2 ?_ q
  intro G H x y a b Qd Q c rx ry h o
  cases b with
  | int i =>
    cases (show y = .int i from ry)
    cases a with
    | tup xs =>
      obtain ⟨d, e, q⟩ := h
      obtain ⟨p, vs, rfl, g, hs, rr⟩ := c.tup (K := X.K) rx
      obtain ⟨j, ej, hj⟩ := atI_len rr.length.symm e
      obtain ⟨w, ew, rw'⟩ := rr.get ej
      exact .inr (.inl ⟨p, vs, i, w, rfl, rfl, hs, hj w ew, o d q w G H .refl c rw'⟩)
    | lst xs =>
      obtain ⟨d, e, q⟩ := h
      obtain ⟨p, vs, rfl, g, hs, rr⟩ := c.lst (K := X.K) rx
      obtain ⟨j, ej, hj⟩ := atI_len rr.length.symm e
      obtain ⟨w, ew, rw'⟩ := rr.get ej
      exact .inl ⟨p, vs, i, w, rfl, rfl, hs, hj w ew, o d q w G H .refl c rw'⟩
    | str z =>
      obtain ⟨k, hz, e, q⟩ := h
      cases (show x = .str z from rx)
      exact .inr (.inr ⟨z, i, k, rfl, rfl, hz, e, o _ q _ G H .refl c rfl⟩)
    | _ => exact (show False from h).elim
  | _ => cases a <;> exact (show False from h).elim
/-! ### ==, != -/
theorem paired_ints {K : PySem.W.Frag} {H : Hp} : ∀ ns : List Int, DpAll K H (ns.map V.int) (ns.map PyData.int)
  | [] => .nil
  | n :: r => .cons (.int n) (paired_ints r)
theorem lay_ints : ∀ ns : List Int, PyData.canLayAll0 (ns.map PyData.int) = true
  | [] => by simp [PyData.canLayAll0]
  | n :: r => by simp [PyData.canLayAll0, PyData.canLay0, lay_ints r]
theorem depth_ints (ns : List Int) : (PyData.tuple (ns.map PyData.int)).depth ≤ 64 := by
  have h : ∀ ns : List Int, PyData.depthAll (ns.map PyData.int) ≤ 8 := by
    intro ns
    induction ns with
    | nil => simp [PyData.depthAll]
    | cons n r ih => simp [PyData.depthAll, PyData.depth]; omega
  have := h ns
  simp [PyData.depth]
  omega
theorem shaped_ints (ns : List Int) : SeqAt.shaped (.tuple (ns.map PyData.int)) = true := by
  unfold SeqAt.shaped
  rw [Bool.and_eq_true]
  refine ⟨?_, decide_eq_true (depth_ints ns)⟩
  simp [PyData.canLay0, lay_ints]
theorem eqv_ints : ∀ ns ms : List Int, PyData.eqvAll (ns.map PyData.int) (ms.map PyData.int) = decide (ns = ms)
  | [], [] => by simp [PyData.eqvAll]
  | [], _ :: _ => by simp [PyData.eqvAll]
  | _ :: _, [] => by simp [PyData.eqvAll]
  | n :: ns, m :: ms => by
    simp only [List.map_cons, PyData.eqvAll, PyData.eqv, eqv_ints ns ms]
    by_cases h : n = m
    · subst h; simp
    · simp [h]
/-- equality of ints, of texts, of rows of ints -/
def EqD (f : Bool → Bool) : R2d := fun x y Q => match x, y with
  | .int i, .int j => Q (.bl (f (decide (i = j))))
  | .str i, .str j => Q (.bl (f (decide (i = j))))
  | .tup xs, .tup ys => ∃ ns ms : List Int, xs = ns.map D.int ∧ ys = ms.map D.int ∧ Q (.bl (f (decide (ns = ms))))
  | _, _ => False
theorem fitEq {K : PySem.W.Frag} {f : Bool → Bool} : Fit2 (fun x y H Q => (scal x y = true ∧ Q (.bl (f (decide (x = y)))) H) ∨ ∃ d e, Dp K H x d ∧ Dp K H y e ∧ SeqAt.shaped d = true ∧ SeqAt.shaped e = true ∧ Q (.bl (f (PyData.eqv d e))) H) (EqD f) := by
  intro G H x y a b Qd Q c rx ry h o
  cases a with
  | int i =>
    cases b with
    | int j =>
      cases (show x = .int i from rx)
      cases (show y = .int j from ry)
      refine .inl ⟨rfl, ?_⟩
      have e : decide (V.int i = V.int j) = decide (i = j) := by
        by_cases z : i = j
        · subst z; simp
        · rw [decide_eq_false z, decide_eq_false fun q => z (V.int.inj q)]
      rw [e]
      exact o _ h _ G H .refl c rfl
    | _ => exact (show False from h).elim
  | str i =>
    cases b with
    | str j =>
      cases (show x = .str i from rx)
      cases (show y = .str j from ry)
      refine .inl ⟨rfl, ?_⟩
      have e : decide (V.str i = V.str j) = decide (i = j) := by
        by_cases z : i = j
        · subst z; simp
        · rw [decide_eq_false z, decide_eq_false fun q => z (V.str.inj q)]
      rw [e]
      exact o _ h _ G H .refl c rfl
    | _ => exact (show False from h).elim
  | tup xs =>
    cases b with
    | tup ys =>
      obtain ⟨ns, ms, rfl, rfl, q⟩ := h
      obtain ⟨p, vs, rfl, _, hp, rp⟩ := c.tup (K := K) rx
      obtain ⟨p', vs', rfl, _, hp', rp'⟩ := c.tup (K := K) ry
      rw [rp.of_ints] at hp
      rw [rp'.of_ints] at hp'
      refine .inr ⟨_, _, .tup hp (paired_ints ns), .tup hp' (paired_ints ms), shaped_ints ns, shaped_ints ms, ?_⟩
      rw [show PyData.eqv (.tuple (ns.map PyData.int)) (.tuple (ms.map PyData.int)) = decide (ns = ms) from (by rw [PyData.eqv]; exact eqv_ints ns ms)]
      exact o _ q _ G H .refl c rfl
    | _ => exact (show False from h).elim
  | _ => exact (show False from h).elim
theorem pec_eq (hu : X.A.units + 64 < cLine) (ha : PEc X E a ta) (hb : PEc X E b tb) : PEc X E (.Compare a [.Eq] [b] pos) (dOp (EqD id) ta tb) :=
  pec_cmp (OpR.or op_eq (op_eqD hu)) (fitEq (f := id)) ha hb
theorem pec_ne (hu : X.A.units + 64 < cLine) (ha : PEc X E a ta) (hb : PEc X E b tb) : PEc X E (.Compare a [.NotEq] [b] pos) (dOp (EqD not) ta tb) :=
  pec_cmp (OpR.or op_ne (op_neD hu)) (fitEq (f := not)) ha hb
/-- is None, is not None -/
def isNon : D → Bool
  | .non => true
  | _ => false
def notOpq : D → Bool
  | .opq => false
  | _ => true
theorem Rp.isNon {G : Gh} {v : V} {d : D} (r : Rp G v d) (n : notOpq d = true) : decide (v = .non) = Cc.isNon d := by
  cases d with
  | opq => cases n
  | non => cases (show v = .non from r); rfl
  | bl _ => cases (show v = .bl _ from r); rfl
  | int _ => cases (show v = .int _ from r); rfl
  | str _ => cases (show v = .str _ from r); rfl
  | tup _ => obtain ⟨a, rfl, _⟩ := r; rfl
  | lst _ => obtain ⟨a, rfl, _⟩ := r; rfl
  | deal => obtain ⟨a, rfl, _⟩ := r; rfl
  | scr _ => cases (show v = .ref _ from r); rfl
  | cell => exact r.elim
def dIsN (ta : TEd) : TEd := fun ρ Q => ta ρ fun x => notOpq x = true ∧ Q (.bl (isNon x))
def dNotN (ta : TEd) : TEd := fun ρ Q => ta ρ fun x => notOpq x = true ∧ Q (.bl (!isNon x))
theorem pec_isN {j pos'} (ha : PEc X E a ta) (h1 : behindInMarks .Is (.Constant .none j pos') = false := by rfl) : PEc X E (.Compare a [.Is] [.Constant .none j pos'] pos) (dIsN ta) := by
  refine PE.imp (pe_cmp (pc_isN ha) h1) fun σ H Q q => ?_
  obtain ⟨G, ρ, Qd, R, h, o⟩ := q
  refine ⟨G, ρ, _, R, h, fun x hx v G1 H1 S1 c1 r1 => ?_⟩
  show Q (.bl (decide (v = .non))) H1
  rw [r1.isNon hx.1]
  exact o _ hx.2 _ G1 H1 S1 c1 rfl
theorem pec_notN {j pos'} (ha : PEc X E a ta) (h1 : behindInMarks .IsNot (.Constant .none j pos') = false := by rfl) : PEc X E (.Compare a [.IsNot] [.Constant .none j pos'] pos) (dNotN ta) := by
  refine PE.imp (pe_cmp (pc_notN ha) h1) fun σ H Q q => ?_
  obtain ⟨G, ρ, Qd, R, h, o⟩ := q
  refine ⟨G, ρ, _, R, h, fun x hx v G1 H1 S1 c1 r1 => ?_⟩
  show Q (.bl (!decide (v = .non))) H1
  rw [r1.isNon hx.1]
  exact o _ hx.2 _ G1 H1 S1 c1 rfl
/-- a < b < c -/
def ChD (r r' : R2d) (ta tb tc : TEd) : TEd := fun ρ Q => ta ρ fun x => tb ρ fun y => r x y (asB fun k => (k = true → tc ρ fun z => r' y z Q) ∧ (k = false → Q (.bl false)))
theorem pec_chain {op op' : CmpOp} {r r' : R2} {rd rd' : R2d} (ho : OpR X (compareOp op) r) (ho' : OpR X (compareOp op') r') (f : Fit2 r rd) (f' : Fit2 r' rd') (ha : PEc X E a ta) (hb : PEc X E b tb) (hc : PEc X E c tc) (hm : lastMarks [op, op'] [b, c] = false := by with_unfolding_all rfl) :
    PEc X E (.Compare a [op, op'] [b, c] pos) (ChD rd rd' ta tb tc) := by
  refine PE.imp (pe_chain ho ho' ha hb hc hm) fun σ H Q q => ?_
  obtain ⟨G, ρ, Qd, R, h, o⟩ := q
  refine ⟨G, ρ, _, R, h, fun x hx v G1 H1 S1 c1 r1 => ?_⟩
  refine ⟨G1, ρ, _, R.go S1 c1, hx, fun y hy u G2 H2 S2 c2 r2 => ?_⟩
  refine f G2 H2 v u x y _ _ c2 (r1.mono S2.g) r2 hy fun d hd w G3 H3 S3 c3 r3 => ?_
  cases d with
  | bl k =>
    refine ⟨k, r3, ?_⟩
    cases k with
    | true =>
      rw [if_pos rfl]
      have S13 := (S1.trans S2).trans S3
      exact ⟨G3, ρ, _, R.go S13 c3, hd.1 rfl, fun z hz w' G4 H4 S4 c4 r4 => f' G4 H4 u w' y z Qd Q c4 (r2.mono (S3.trans S4).g) r4 hz fun d2 hd2 w2 G5 H5 S5 c5 r5 => o d2 hd2 w2 G5 H5 (S13.trans (S4.trans S5)) c5 r5⟩
    | false =>
      rw [if_neg Bool.false_ne_true]
      exact o _ (hd.2 rfl) _ G3 H3 ((S1.trans S2).trans S3) c3 rfl
  | _ => exact (show False from hd).elim
/-! ### built-ins by name -/
abbrev RAd := List D → (D → Prop) → Prop
def FitA (r : List V → Hp → VK → Prop) (rd : RAd) : Prop := ∀ G H vs ds Qd Q, Cons G H → Rps G vs ds → rd ds Qd → Outc G H Qd Q → r vs H Q
def dCB (rd : RAd) (t : TAd) : TEd := fun ρ Q => t ρ fun ds => rd ds Q
theorem liftCB {r : List V → Hp → VK → Prop} {rd : RAd} (f : FitA r rd) {σ : L2.St} {H : Hp} {Q : VK} (h : liftE E (dCB rd t) σ H Q) : tCB r (liftA E t) σ H Q := by
  obtain ⟨G, ρ, Qd, R, h, o⟩ := h
  refine ⟨G, ρ, _, R, h, fun ds hds vs G1 H1 S1 c1 r1 => ?_⟩
  exact f G1 H1 vs ds Qd Q c1 r1 hds fun d hd w G3 H3 S3 c3 r3 => o d hd w G3 H3 (S1.trans S3) c3 r3
variable {x : Str} {p : Pos} {id T : String} {r : List V → Hp → VK → Prop} {rd : RAd}
theorem pec_callB (hc : CallR X (.builtin id) r) (f : FitA r rd) (hg : Gl X x) (hm : X.mg x = none) (hv : bootBuiltins x = some (.builtin id)) (ha : PAc X E (e :: es) t) (hn : x ≠ "__name__" := by decide) (hdb : (x == ("__debug__" : Str)) = false := by decide)
    (he : starEach (e :: es) X.env = (false, eval e X.env) :: starEach es X.env := by rfl) (hpl : (backTo pos (starEach es X.env)).any (·.1) = false := by rfl) : PEc X E (.Call (.Name x p) (e :: es) [] pos) (dCB rd t) :=
  PE.imp (pe_callB hc hg hm hv ha hn hdb he hpl) fun _ _ _ h => liftCB f h
theorem pec_callTy (hc : CallR X (.type T) r) (f : FitA r rd) (hg : Gl X x) (hm : X.mg x = none) (hv : bootBuiltins x = some (.type T)) (ha : PAc X E (e :: es) t) (hn : x ≠ "__name__" := by decide) (hdb : (x == ("__debug__" : Str)) = false := by decide)
    (he : starEach (e :: es) X.env = (false, eval e X.env) :: starEach es X.env := by rfl) (hpl : (backTo pos (starEach es X.env)).any (·.1) = false := by rfl) : PEc X E (.Call (.Name x p) (e :: es) [] pos) (dCB rd t) :=
  PE.imp (pe_callTy hc hg hm hv ha hn hdb he hpl) fun _ _ _ h => liftCB f h
theorem pec_callBf (hc : CallR X (.builtin id) r) (f : FitA r rd) (hg : Gl X x) (hm : X.mg x = some (.builtin id)) (ha : PAc X E (e :: es) t) (hdb : (x == ("__debug__" : Str)) = false := by decide)
    (he : starEach (e :: es) X.env = (false, eval e X.env) :: starEach es X.env := by rfl) (hpl : (backTo pos (starEach es X.env)).any (·.1) = false := by rfl) : PEc X E (.Call (.Name x p) (e :: es) [] pos) (dCB rd t) :=
  PE.imp (pe_callBfun hc hg hm ha hdb he hpl) fun _ _ _ h => liftCB f h
/-! ### defs -/
/-- a promise over data: the arguments, what is wanted of the answer -/
abbrev Spd := List D → (D → Prop) → Prop
def liftSp (spd : Spd) (n : Nat) : Sp := fun vs H Q _ => vs.length = n ∧ ∃ G ds Qd, Cons G H ∧ Rps G vs ds ∧ spd ds Qd ∧ Outc G H Qd Q
/-- the def of a name keeps a promise -/
structure FnAt (P : Program) (w : World) (K : PySem.W.Frag) (mg : Str → Option Value) (base : Heap) (k : Nat) (x : Str) (ps : List Str) (spd : Spd) : Prop where
  ex : ∃ f fd, mg x = some (.ref f) ∧ PySem.W.keepIn K (.ref f) = true ∧ Binds K fd ps [] ∧ (∃ oc od osl, K.lookup f = some ⟨oc, od, .func fd, osl⟩) ∧ FnOk P w K mg base CX0 k f fd ps (liftSp spd ps.length)
  len : ∀ ds Q, spd ds Q → ds.length = ps.length
def dCall (spd : Spd) (t : TAd) : TEd := fun ρ Q => t ρ fun ds => spd ds Q
theorem pec_call {k : Nat} {ps : List Str} {spd : Spd} (F : FnAt X.prog X.w X.K X.mg X.base k x ps spd) (hr : Room k X.A) (ha : PAc X E (e :: es) t) (hg : Gl X x := by rfl) (hdb : (x == ("__debug__" : Str)) = false := by decide)
    (he : starEach (e :: es) X.env = (false, eval e X.env) :: starEach es X.env := by rfl) (hpl : (backTo pos (starEach es X.env)).any (·.1) = false := by rfl) : PEc X E (.Call (.Name x p) (e :: es) [] pos) (dCall spd t) := by
  obtain ⟨f, fd, hm, hk, hb, _, F'⟩ := F.ex
  refine PE.imp (pe_call (E := fun _ _ _ => False) F' hr hg hm hk hb .nil (fun _ _ _ _ _ _ _ h => h.elim) ha hdb he hpl) fun σ H Q q => ?_
  obtain ⟨G, ρ, Qd, R, h, o⟩ := q
  refine ⟨G, ρ, _, R, h, fun ds hds vs G1 H1 S1 c1 r1 => ?_⟩
  show liftSp spd ps.length (vs ++ []) H1 Q _
  rw [List.append_nil]
  exact ⟨by rw [r1.length]; exact F.len _ _ hds, G1, ds, Qd, c1, r1, hds, fun d hd w G3 H3 S3 c3 r3 => o d hd w G3 H3 (S1.trans S3) c3 r3⟩
theorem pec_call0 {k : Nat} {ps : List Str} {spd : Spd} (F : FnAt X.prog X.w X.K X.mg X.base k x ps spd) (hr : Room k X.A) (hg : Gl X x := by rfl) (hdb : (x == ("__debug__" : Str)) = false := by decide) : PEc X E (.Call (.Name x p) [] [] pos) (dCall spd dNil) := by
  obtain ⟨f, fd, hm, hk, hb, _, F'⟩ := F.ex
  refine PE.imp (pe_call0 (E := fun _ _ _ => False) F' hr hg hm hk hb .nil (fun _ _ _ _ _ _ _ h => h.elim) hdb) fun σ H Q q => ?_
  obtain ⟨G, ρ, Qd, R, h, o⟩ := q
  have h' : spd [] Qd := h
  exact ⟨F.len _ _ h', G, [], Qd, R.cons, .nil, h', o⟩
def startD : Nat → List D → En
  | 0, _ => []
  | n + 1, [] => .no :: startD n []
  | n + 1, d :: ds => .d d :: startD n ds
theorem startD_length : ∀ (n : Nat) (ds : List D), (startD n ds).length = n
  | 0, _ => rfl
  | n + 1, [] => by show (startD n []).length + 1 = n + 1; rw [startD_length n []]
  | n + 1, d :: ds => by show (startD n ds).length + 1 = n + 1; rw [startD_length n ds]
theorem gt_startD : ∀ (n : Nat) (ds : List D) (i : Nat), gt (startD n ds) i = .no ∨ ∃ d, ds[i]? = some d ∧ gt (startD n ds) i = .d d
  | 0, _, _ => .inl rfl
  | n + 1, [], 0 => .inl rfl
  | n + 1, [], i + 1 => by
    rcases gt_startD n [] i with h | ⟨d, h, _⟩
    · exact .inl h
    · simp at h
  | n + 1, d :: ds, 0 => .inr ⟨d, rfl, rfl⟩
  | n + 1, d :: ds, i + 1 => by
    rcases gt_startD n ds i with h | ⟨d', h, q⟩
    · exact .inl h
    · exact .inr ⟨d', by simpa using h, q⟩
theorem rel_start {G : Gh} {H : Hp} {N : List Str} {vs : List V} {ds : List D} (c : Cons G H) (r : Rps G vs ds) (hl : ds.length ≤ N.length) : Rel ⟨G, H⟩ G (startD N.length ds) (L2.start N vs) H := by
  have e1 := r.length
  refine ⟨c, .refl, ?_, fun i => ?_, fun i j a hij h1 => ?_⟩
  · rw [startD_length]
    unfold L2.start
    rw [List.length_append, List.length_map, List.length_replicate]
    omega
  · rcases gt_startD N.length ds i with h | ⟨d, h, q⟩
    · rw [h]; trivial
    · rw [q]
      obtain ⟨v, hv, rv⟩ := r.get h
      refine ⟨v, ?_, rv⟩
      refine gv_of ?_
      unfold L2.start
      have hi : i < vs.length := (List.getElem?_eq_some_iff.mp hv).1
      rw [List.getElem?_append_left (by simpa using hi), List.getElem?_map, hv]
      rfl
  · rcases gt_startD N.length ds i with h | ⟨d, h, q⟩
    · rw [h] at h1; cases h1
    · rw [q] at h1; cases h1
theorem _root_.L2.FunD.look {K : PySem.W.Frag} {x qual : Str} {params : Arguments} {body : List Stmt} {scope : Scope} {dvs : List V} {kws : List (Str × V)} {f : Addr} {fd : FuncData} (F : FunD K x qual params body scope dvs kws f fd) : ∃ oc od osl, K.lookup f = some ⟨oc, od, .func fd, osl⟩ := by
  obtain ⟨oc, od, _, _, _, _, _, _, _, osl, _, h, _⟩ := F.ex
  exact ⟨oc, od, osl, h⟩
/-- THE RULE for a def -/
theorem fn_mk {P : Program} {w : World} {K : PySem.W.Frag} {mg : Str → Option Value} {base : Heap} {qual : Str} {params : Arguments} {body : List Stmt} {scope : Scope} {f : Addr} {fd : FuncData} {N ps : List Str} {k : Nat} {spd : Spd}
    (hm : mg x = some (.ref f)) (F : FunD K x qual params body scope [] [] f fd) (S : FnScope N ps scope) (hn : ps.length ≤ N.length)
    (hb : ∀ (kV doc pm : Value) (an : Option Addr) (cdv ct : Value) (us : List Value), us.length = ps.length → bindArgs (PySem.W.fnOf x qual params body scope .none kV doc pm an cdv ct) ⟨us, []⟩ = pure (ps.zip us))
    (len : ∀ ds Q, spd ds Q → ds.length = ps.length)
    (hbody : ∀ (E : Ent) (cdv : Value) (A : Around) (outer : List Env) (s : Shared) (H : Hp) (Ex : XK) (ds : List D) (Qd : D → Prop), Room k (A.deeper (envOfC qual scope s.heap.objs.size f cdv)) → spd ds Qd →
      ∃ t, PSsc (cxOf CX0 P w K mg base N qual scope f cdv A outer s H Ex).nox E body t ∧ t { nx := fun _ => Qd .non, rt := Qd } (startD N.length ds)) :
    FnAt P w K mg base (k + 1) x ps spd := by
  refine ⟨⟨f, fd, hm, F.kp, F.bindsN hb, F.look, F.ok S (fun vs H Q E h => h.1) fun cdv A outer s H vs Q Ex hr h => ?_⟩, len⟩
  obtain ⟨hl, G, ds, Qd, c, r, hsp, o⟩ := h
  obtain ⟨t, ht, hq⟩ := hbody ⟨G, H⟩ cdv A outer s H Ex ds Qd hr hsp
  refine ⟨_, PSs.nox ht, G, _, _, rel_start c r (by rw [len _ _ hsp]; exact hn), hq, ?_⟩
  exact ⟨fun ρ h G' σ' H' _ R' => o _ h _ G' H' R'.step R'.cons rfl, fun d h v G' H' S' c' r' => o d h v G' H' S' c' r', fun _ h => h.elim, fun _ h => h.elim⟩
/-! ### statements -/
variable {st1 : Stmt} {rest : List Stmt} {ts us : TSd} {i : Nat}
def dNext : TSd := fun D ρ => D.nx ρ
def dSeq (t u : TSd) : TSd := fun D ρ => t { D with nx := u D } ρ
theorem pssc_nil : PSsc X E [] dNext := PSs.imp pss_nil fun D σ H ⟨G, ρ, d, R, h, o⟩ => o.nx ρ h G σ H (fun _ _ e => e) R
theorem pssc_cons (h1 : PSc X E st1 ts) (h2 : PSsc X E rest us) : PSsc X E (st1 :: rest) (dSeq ts us) := by
  refine PSs.imp (pss_cons h1 h2) fun D σ H q => ?_
  obtain ⟨G, ρ, d, R, h, o⟩ := q
  exact ⟨G, ρ, _, R, h, ⟨fun ρ' h' G' σ' H' g' R' => ⟨G', ρ', d, R', h', o.sub g'⟩, o.rt, o.bk, o.ct⟩⟩
theorem pssc_one (h1 : PSc X E st1 ts) : PSsc X E [st1] ts := pss_one h1
def dBreak : TSd := fun D ρ => D.bk ρ
def dCont : TSd := fun D ρ => D.ct ρ
theorem psc_pass : PSc X E (.Pass pos) dNext := PS.imp ps_pass fun D σ H ⟨G, ρ, d, R, h, o⟩ => o.nx ρ h G σ H (fun _ _ e => e) R
theorem psc_break : PSc X E (.Break pos) dBreak := PS.imp ps_break fun D σ H ⟨G, ρ, d, R, h, o⟩ => o.bk ρ h G σ H (fun _ _ e => e) R
theorem psc_continue : PSc X E (.Continue pos) dCont := PS.imp ps_continue fun D σ H ⟨G, ρ, d, R, h, o⟩ => o.ct ρ h G σ H (fun _ _ e => e) R
def dNever : TSd := fun _ _ => False
theorem psc_never : PSc X E st1 dNever := PS.imp ps_never fun _ _ _ ⟨_, _, _, _, h, _⟩ => h
theorem pssc_never {sts : List Stmt} : PSsc X E sts dNever := PSs.imp pss_never fun _ _ _ ⟨_, _, _, _, h, _⟩ => h
def dRet (te : TEd) : TSd := fun D ρ => te ρ D.rt
theorem psc_ret (he : PEc X E e te) : PSc X E (.Return (some e) pos) (dRet te) := by
  refine PS.imp (ps_ret he) fun D σ H q => ?_
  obtain ⟨G, ρ, d, R, h, o⟩ := q
  exact ⟨G, ρ, _, R, h, fun x hx v G' H' S c r => o.rt x hx v G' H' (R.step.trans S) c r⟩
def dDrop (te : TEd) : TSd := fun D ρ => te ρ fun _ => D.nx ρ
theorem psc_expr (he : PEc X E e te) (hs : swapsWith e none pos.line X.env = pure false := by rfl) : PSc X E (.Expr e pos) (dDrop te) := by
  refine PS.imp (ps_expr he hs) fun D σ H q => ?_
  obtain ⟨G, ρ, d, R, h, o⟩ := q
  exact ⟨G, ρ, _, R, h, fun x hx v G' H' S c r => o.nx ρ hx G' σ H' S.g (R.go S c)⟩
def dIfS (c : TTd) (t u : TSd) : TSd := fun D ρ => c ρ fun b => (b = true → t D ρ) ∧ (b = false → u D ρ)
theorem psc_if {b1 b2 : List Stmt} (hc : PTc X E c tA) (ha : PSsc X E b1 ts) (hb : PSsc X E b2 us) : PSc X E (.If c b1 b2 pos) (dIfS tA ts us) := by
  refine PS.imp (ps_if hc ha hb) fun D σ H q => ?_
  obtain ⟨G, ρ, d, R, h, o⟩ := q
  refine ⟨G, ρ, _, R, h, fun b hb G' H' S k => ?_⟩
  cases b with
  | true => rw [if_pos rfl]; exact ⟨G', ρ, d, R.go S k, hb.1 rfl, o.sub S.g⟩
  | false => rw [if_neg Bool.false_ne_true]; exact ⟨G', ρ, d, R.go S k, hb.2 rfl, o.sub S.g⟩
/-- x = e -/
def dSet (i : Nat) (te : TEd) : TSd := fun D ρ => te ρ fun x => D.nx (st ρ i (.d x))
theorem psc_set {y : Str} {pos' : Pos} (hN : X.N.Nodup) (he : PEc X E e te) (hi : X.N[i]? = some y := by rfl) (hx : Loc X.env.scope y := by first | exact .inl rfl | exact .inr rfl) (hs : swapsWith e (some (.Name y pos')) pos.line X.env = pure false := by rfl) (hf : X.fn y = true ∨ X.env.scope.names.lookup y = some .local := by first | exact .inl rfl | exact .inr rfl) :
    PSc X E (.Assign [.Name y pos'] e pos) (dSet i te) := by
  refine PS.imp (ps_set hN hi hx he hs hf) fun D σ H q => ?_
  obtain ⟨G, ρ, d, R, h, o⟩ := q
  exact ⟨G, ρ, _, R, h, fun x hx v G' H' S c r => o.nx _ hx G' _ H' S.g ((R.go S c).putD r)⟩
/-- targets -/
abbrev TGd := D → En → (En → Prop) → Prop
abbrev TGsd := List D → En → (En → Prop) → Prop
def liftG (E : Ent) (g : TGd) : TG := fun v σ H Q => ∃ G ρ x Qd, Rel E G ρ σ H ∧ Rp G v x ∧ g x ρ Qd ∧ ∀ ρ', Qd ρ' → ∀ G' σ' H', Step G H G' H' → Rel E G' ρ' σ' H' → Q σ' H'
def liftGs (E : Ent) (g : TGsd) : TGs := fun vs σ H Q => ∃ G ρ xs Qd, Rel E G ρ σ H ∧ Rps G vs xs ∧ g xs ρ Qd ∧ ∀ ρ', Qd ρ' → ∀ G' σ' H', Step G H G' H' → Rel E G' ρ' σ' H' → Q σ' H'
abbrev PGc (X : Cx) (E : Ent) (tg : Expr) (g : TGd) : Prop := PG X tg (liftG E g)
abbrev PGsc (X : Cx) (E : Ent) (tg : List Expr) (g : TGsd) : Prop := PGs X tg (liftGs E g)
theorem PG.imp {e : Expr} {t t' : TG} (h : PG X e t) (i : ∀ v σ H Q, t' v σ H Q → t v σ H Q) : PG X e t' := ⟨fun pins s σ H v u Q I r q => h.run pins s σ H v u Q I r (i v σ H Q q)⟩
theorem PGs.imp {e : List Expr} {t t' : TGs} (h : PGs X e t) (i : ∀ v σ H Q, t' v σ H Q → t v σ H Q) : PGs X e t' := ⟨fun pins s σ H v u Q I r q => h.run pins s σ H v u Q I r (i v σ H Q q)⟩
def gNm (i : Nat) : TGd := fun x ρ Q => Q (st ρ i (.d x))
theorem pgc_name {y : Str} (hN : X.N.Nodup) (hi : X.N[i]? = some y := by rfl) (hx : Loc X.env.scope y := by first | exact .inl rfl | exact .inr rfl) (hf : X.fn y = true ∨ X.env.scope.names.lookup y = some .local := by first | exact .inl rfl | exact .inr rfl) : PGc X E (.Name y pos) (gNm i) := by
  refine PG.imp (pg_name hN hi hx hf) fun v σ H Q q => ?_
  obtain ⟨G, ρ, x, Qd, R, r, h, o⟩ := q
  exact o _ h G _ H .refl (R.putD r)
def gNl : TGsd := fun xs ρ Q => match xs with
  | [] => Q ρ
  | _ => False
def gCn (g : TGd) (gs : TGsd) : TGsd := fun xs ρ Q => match xs with
  | x :: r => g x ρ fun ρ' => gs r ρ' Q
  | [] => False
theorem pgsc_nil : PGsc X E [] gNl := by
  refine PGs.imp pgs_nil fun vs σ H Q q => ?_
  obtain ⟨G, ρ, xs, Qd, R, r, h, o⟩ := q
  cases r with
  | nil => exact ⟨rfl, o _ h G σ H .refl R⟩
  | cons _ _ => exact (show False from h).elim
theorem pgsc_cons {g : TGd} {gs : TGsd} (h1 : PGc X E e g) (h2 : PGsc X E es gs) (hs : (assignEach (e :: es) X.env).map (·.2) = assign e X.env :: (assignEach es X.env).map (·.2) := by rfl) : PGsc X E (e :: es) (gCn g gs) := by
  refine PGs.imp (pgs_cons h1 h2 hs) fun vs σ H Q q => ?_
  obtain ⟨G, ρ, xs, Qd, R, r, h, o⟩ := q
  cases r with
  | nil => exact (show False from h).elim
  | @cons v x vs' xs' r rr =>
    exact ⟨v, vs', rfl, G, ρ, x, _, R, r, h, fun ρ' h' G' σ' H' S' R' => ⟨G', ρ', xs', Qd, R', Rps.mono S'.g rr, h', fun ρ2 h2 G2 σ2 H2 S2 R2 => o ρ2 h2 G2 σ2 H2 (S'.trans S2) R2⟩⟩
def gTp (gs : TGsd) (n : Nat) : TGd := fun x ρ Q => match x with
  | .tup xs => Nat.beq xs.length n = true ∧ gs xs ρ Q
  | _ => False
theorem pgc_tup {k : Nat} {gs : TGsd} {n : Nat} (hc : X.calm = true) (h : PGsc X E es gs) (hn : (assignEach es X.env).length = n := by rfl) (hst : (assignEach es X.env).findIdx? (·.1) = none := by rfl) : PGc X E (.Tuple es k pos) (gTp gs n) := by
  refine PG.imp (pg_tup hc h hn hst) fun v σ H Q q => ?_
  obtain ⟨G, ρ, x, Qd, R, r, h, o⟩ := q
  cases x with
  | tup xs =>
    obtain ⟨a, vs, rfl, g, hs, rr⟩ := R.cons.tup (K := X.K) r
    exact ⟨a, vs, rfl, hs, by rw [rr.length]; exact Nat.eq_of_beq_eq_true h.1, G, ρ, xs, Qd, R, rr, h.2, o⟩
  | _ => exact (show False from h).elim
/-- target = e -/
def dAsg (te : TEd) (g : TGd) : TSd := fun D ρ => te ρ fun x => g x ρ D.nx
theorem psc_asg {tg : Expr} {g : TGd} (he : PEc X E e te) (hg : PGc X E tg g) (hs : swapsWithSole [tg] e pos.line X.env = pure false := by rfl) (hw : swappedStores [tg] e X.env = pure none := by rfl)
    (h1 : (assignEach [tg] X.env).map (·.2) = [assign tg X.env] := by rfl) : PSc X E (.Assign [tg] e pos) (dAsg te g) := by
  refine PS.imp (ps_asg he hg hs hw h1) fun D σ H q => ?_
  obtain ⟨G, ρ, d, R, h, o⟩ := q
  exact ⟨G, ρ, _, R, h, fun x hx v G' H' S c r => ⟨G', ρ, x, _, R.go S c, r, hx, fun ρ' h' G2 σ2 H2 S2 R2 => o.nx ρ' h' G2 σ2 H2 (S.trans S2).g R2⟩⟩
/-- a, b = e1, e2 -/
def dPar (i j : Nat) (t : TAd) : TSd := fun D ρ => t ρ fun ds => match ds with
  | [x, y] => D.nx (st (st ρ i (.d x)) j (.d y))
  | _ => False
theorem psc_par {i j : Nat} {y z : Str} {px py pt : Pos} {kt k2 pt2} (hc : X.calm = true) (hN : X.N.Nodup) (ha : PAc X E [a, b] t) (hi : X.N[i]? = some y := by rfl) (hj : X.N[j]? = some z := by rfl) (hij : i ≠ j := by decide)
    (hx : X.env.scope.names.lookup y = some .local := by rfl) (hy : X.env.scope.names.lookup z = some .local := by rfl)
    (hw : swappedStores [.Tuple [.Name y px, .Name z py] kt pt] (.Tuple [a, b] k2 pt2) X.env = pure (some [y, z]) := by rfl)
    (hs : swapsWithSole [.Tuple [.Name y px, .Name z py] kt pt] (.Tuple [a, b] k2 pt2) pos.line X.env = pure false := by rfl) :
    PSc X E (.Assign [.Tuple [.Name y px, .Name z py] kt pt] (.Tuple [a, b] k2 pt2) pos) (dPar i j t) := by
  refine PS.imp (ps_par hc hN hi hj hij hx hy ha hw hs) fun D σ H q => ?_
  obtain ⟨G, ρ, d, R, h, o⟩ := q
  refine ⟨G, ρ, _, R, h, fun ds hds vs G' H' S c r => ?_⟩
  cases r with
  | nil => exact (show False from hds).elim
  | cons r1 r =>
    cases r with
    | nil => exact (show False from hds).elim
    | cons r2 r =>
      cases r with
      | nil => exact ⟨_, _, rfl, o.nx _ hds G' _ H' S.g (((R.go S c).putD r1).putD r2)⟩
      | cons _ _ => exact (show False from hds).elim
def dPar3 (i j l : Nat) (t : TAd) : TSd := fun D ρ => t ρ fun ds => match ds with
  | [x, y, z] => D.nx (st (st (st ρ i (.d x)) j (.d y)) l (.d z))
  | _ => False
theorem psc_par3 {i j l : Nat} {y z w : Str} {px py pz pt : Pos} {kt k2 pt2} (hc : X.calm = true) (hN : X.N.Nodup) (ha : PAc X E [a, b, c] t) (hi : X.N[i]? = some y := by rfl) (hj : X.N[j]? = some z := by rfl) (hl : X.N[l]? = some w := by rfl) (hij : i ≠ j := by decide) (hil : i ≠ l := by decide) (hjl : j ≠ l := by decide)
    (hx : X.env.scope.names.lookup y = some .local := by rfl) (hy : X.env.scope.names.lookup z = some .local := by rfl) (hz : X.env.scope.names.lookup w = some .local := by rfl)
    (hw : swappedStores [.Tuple [.Name y px, .Name z py, .Name w pz] kt pt] (.Tuple [a, b, c] k2 pt2) X.env = pure (some [y, z, w]) := by rfl)
    (hs : swapsWithSole [.Tuple [.Name y px, .Name z py, .Name w pz] kt pt] (.Tuple [a, b, c] k2 pt2) pos.line X.env = pure false := by rfl) :
    PSc X E (.Assign [.Tuple [.Name y px, .Name z py, .Name w pz] kt pt] (.Tuple [a, b, c] k2 pt2) pos) (dPar3 i j l t) := by
  refine PS.imp (ps_par3 hc hN hi hj hl hij hil hjl hx hy hz ha hw hs) fun D σ H q => ?_
  obtain ⟨G, ρ, d, R, h, o⟩ := q
  refine ⟨G, ρ, _, R, h, fun ds hds vs G' H' S c r => ?_⟩
  cases r with
  | nil => exact (show False from hds).elim
  | cons r1 r =>
    cases r with
    | nil => exact (show False from hds).elim
    | cons r2 r =>
      cases r with
      | nil => exact (show False from hds).elim
      | cons r3 r =>
        cases r with
        | nil => exact ⟨_, _, _, rfl, o.nx _ hds G' _ H' S.g ((((R.go S c).putD r1).putD r2).putD r3)⟩
        | cons _ _ => exact (show False from hds).elim
/-- x op= e -/
def dAug (i : Nat) (te : TEd) (rd : R2d) : TSd := fun D ρ => match gt ρ i with
  | .d x => te ρ fun y => rd x y fun z => D.nx (st ρ i (.d z))
  | _ => False
theorem psc_aug {y : Str} {op : Operator} {r : R2} {rd : R2d} {pos' : Pos} (hN : X.N.Nodup) (he : PEc X E e te) (ho : OpR X (inplaceOp op) r) (f : Fit2 r rd) (hi : X.N[i]? = some y := by rfl) (hx : Loc X.env.scope y := by first | exact .inl rfl | exact .inr rfl) (hf : X.fn y = true ∨ X.env.scope.names.lookup y = some .local := by first | exact .inl rfl | exact .inr rfl) :
    PSc X E (.AugAssign (.Name y pos') op e pos) (dAug i te rd) := by
  refine PS.imp (ps_aug (ti := r) hN hi hx he ho hf) fun D σ H q => ?_
  obtain ⟨G, ρ, d, R, h, o⟩ := q
  unfold dAug at h
  have s := R.slot i
  cases z : gt ρ i with
  | d x =>
    rw [z] at h s
    obtain ⟨u, eu, ru⟩ := s
    refine ⟨u, gv_some eu, G, ρ, _, R, h, fun y hy v G' H' S c rv => ?_⟩
    exact f G' H' u v x y _ _ c (ru.mono S.g) rv hy fun d' hd' w G2 H2 S2 c2 r2 => o.nx _ hd' G2 _ H2 (S.trans S2).g ((R.go (S.trans S2) c2).putD r2)
  | no => rw [z] at h; exact h.elim
  | own xs => rw [z] at h; exact h.elim
  | dic xs => rw [z] at h; exact h.elim
theorem psc_addI {y : Str} {pos' : Pos} (hN : X.N.Nodup) (he : PEc X E e te) (hi : X.N[i]? = some y := by rfl) (hx : Loc X.env.scope y := by first | exact .inl rfl | exact .inr rfl) (hf : X.fn y = true ∨ X.env.scope.names.lookup y = some .local := by first | exact .inl rfl | exact .inr rfl) :
    PSc X E (.AugAssign (.Name y pos') .Add e pos) (dAug i te (II0 fun i j => .int (i + j))) := psc_aug hN he iop_add (fitI0 fun _ _ _ => rfl) hi hx hf
theorem psc_subI {y : Str} {pos' : Pos} (hN : X.N.Nodup) (he : PEc X E e te) (hi : X.N[i]? = some y := by rfl) (hx : Loc X.env.scope y := by first | exact .inl rfl | exact .inr rfl) (hf : X.fn y = true ∨ X.env.scope.names.lookup y = some .local := by first | exact .inl rfl | exact .inr rfl) :
    PSc X E (.AugAssign (.Name y pos') .Sub e pos) (dAug i te (II0 fun i j => .int (i - j))) := psc_aug hN he iop_sub (fitI0 fun _ _ _ => rfl) hi hx hf
theorem psc_divI {y : Str} {pos' : Pos} (hN : X.N.Nodup) (he : PEc X E e te) (hi : X.N[i]? = some y := by rfl) (hx : Loc X.env.scope y := by first | exact .inl rfl | exact .inr rfl) (hf : X.fn y = true ∨ X.env.scope.names.lookup y = some .local := by first | exact .inl rfl | exact .inr rfl) :
    PSc X E (.AugAssign (.Name y pos') .FloorDiv e pos) (dAug i te (II CDivW fun i j => .int (i / j))) := psc_aug hN he iop_fdivW (fitI fun _ _ _ => rfl) hi hx hf
/-- while: an invariant with its measure -/
def dWhile (c : TTd) (tb : TSd) : TSd := fun D ρ => ∃ W : Nat → En → Prop, (∃ m, W m ρ) ∧ ∀ m ρ, W m ρ → c ρ fun b => (b = true → tb { nx := fun ρ' => ∃ m', m' < m ∧ W m' ρ', ct := fun ρ' => ∃ m', m' < m ∧ W m' ρ', bk := D.nx, rt := D.rt } ρ) ∧ (b = false → D.nx ρ)
theorem ite_t {c : Bool} {A B : Prop} (e : c = true) (h : A) : if c = true then A else B := by rw [if_pos e]; exact h
theorem ite_f {c : Bool} {A B : Prop} (e : c = false) (h : B) : if c = true then A else B := by rw [e, if_neg Bool.false_ne_true]; exact h
theorem psc_while {body : List Stmt} (hp : PassesOwn (model X.prog X.w) X.A X.env X.xe) (hc : PTc X E c tA) (hb : PSsc X E body ts) : PSc X E (.While c body [] pos) (dWhile tA ts) := by
  refine PS.imp (ps_while hp hc hb) fun D σ H q => ?_
  obtain ⟨G, ρ, d, R, ⟨W, ⟨m0, w0⟩, turn⟩, o⟩ := q
  refine ⟨fun m σ H => ∃ G' ρ, GSub G G' ∧ Rel E G' ρ σ H ∧ W m ρ, ⟨m0, G, ρ, fun _ _ e => e, R, w0⟩, fun m σ1 H1 ⟨G1, ρ1, g1, R1, w1⟩ => ⟨G1, ρ1, _, R1, turn m ρ1 w1, fun b hb G2 H2 S2 c2 => ?_⟩⟩
  have R2 := R1.go S2 c2
  have g2 : GSub G G2 := fun a d e => S2.g a d (g1 a d e)
  cases b with
  | true =>
    refine ite_t rfl ⟨fun σ' H' => ∃ G' ρ', GSub G G' ∧ Rel E G' ρ' σ' H' ∧ ∃ m', m' < m ∧ W m' ρ', fun σ' H' ⟨G', ρ', g', R', m', hm, w'⟩ => ⟨m', hm, G', ρ', g', R', w'⟩, G2, ρ1, _, R2, hb.1 rfl, ?_⟩
    have gg : ∀ {G'}, GSub G2 G' → GSub G G' := fun g a d e => g a d (g2 a d e)
    exact ⟨fun ρ' h G' σ' H' g' R' => ⟨G', ρ', gg g', R', h⟩, o.rt, fun ρ' h G' σ' H' g' R' => o.nx ρ' h G' σ' H' (gg g') R', fun ρ' h G' σ' H' g' R' => ⟨G', ρ', gg g', R', h⟩⟩
  | false => exact ite_f rfl (o.nx ρ1 (hb.2 rfl) G2 σ1 H2 g2 R2)
/-- for over a tuple, a list: an invariant by the turn -/
def loopOver (xs : List D) (g : TGd) (tb : TSd) (D : Es) (ρ : En) : Prop := ∃ Pv : Nat → En → Prop, Pv 0 ρ ∧ (∀ i x ρ, xs[i]? = some x → Pv i ρ → g x ρ fun ρ2 => tb { nx := Pv (i + 1), ct := Pv (i + 1), bk := D.nx, rt := D.rt } ρ2) ∧ ∀ ρ, Pv xs.length ρ → D.nx ρ
def dForT (te : TEd) (g : TGd) (tb : TSd) : TSd := fun D ρ => te ρ fun x => match x with
  | .tup xs => loopOver xs g tb D ρ
  | _ => False
def dForL (te : TEd) (g : TGd) (tb : TSd) : TSd := fun D ρ => te ρ fun x => match x with
  | .lst xs => loopOver xs g tb D ρ
  | _ => False
theorem psc_forT {tg iter : Expr} {body : List Stmt} {g : TGd} (hp : PassesOwn (model X.prog X.w) X.A X.env X.xe) (hc : X.calm = true) (hi : PEc X E iter te) (hg : PGc X E tg g) (hb : PSsc X E body ts)
    (hs : ∀ x, foldedSetIterable iter X.env x = pure x := by intro _; rfl) : PSc X E (.For tg iter body [] pos) (dForT te g ts) := by
  refine PS.imp (ps_for hp hc (pi_tup hi) hg hb hs) fun D σ H q => ?_
  obtain ⟨G, ρ, d, R, h, o⟩ := q
  refine ⟨G, ρ, _, R, h, fun x hx v G1 H1 S1 c1 r1 => ?_⟩
  cases x with
  | tup xs =>
    obtain ⟨Pv, p0, hturn, hd⟩ := hx
    obtain ⟨a, vs, rfl, ga, hs, rr⟩ := c1.tup (K := X.K) r1
    refine ⟨a, rfl, ⟨vs, hs⟩, ?_⟩
    refine ⟨fun i m σ H => m = xs.length - i ∧ i ≤ xs.length ∧ ∃ G' ρ, GSub G1 G' ∧ Rel E G' ρ σ H ∧ Pv i ρ, ⟨_, rfl, Nat.zero_le _, G1, ρ, fun _ _ e => e, R.go S1 c1, p0⟩, ?_⟩
    rintro i m σ2 H2 ⟨rfl, hi, G2, ρ2, g2, R2, p2⟩
    obtain ⟨vs2, h2, r2⟩ := R2.cons a _ (g2 a _ ga)
    have hs2 : SqT X.K H2 a vs2 := SqT.of h2
    by_cases hlt : i < xs.length
    · obtain ⟨w, ew, rw'⟩ := r2.get (List.getElem?_eq_getElem hlt)
      refine .inr ⟨⟨vs2, w, hs2, ew⟩, fun σ' H' => ∃ G' ρ, GSub G1 G' ∧ Rel E G' ρ σ' H' ∧ Pv (i + 1) ρ, fun σ' H' z => ⟨_, by omega, rfl, hlt, z⟩, fun x H' y => ?_⟩
      obtain ⟨e, y⟩ := y
      subst e
      have e2 : w = x := Option.some.inj (ew.symm.trans (y vs2 hs2))
      subst e2
      refine ⟨G2, ρ2, _, _, R2, rw', hturn i _ ρ2 (List.getElem?_eq_getElem hlt) p2, fun ρ' h' G3 σ3 H3 S3 R3 => ?_⟩
      have gg : ∀ {G'}, GSub G3 G' → GSub G1 G' := fun g a d e => g a d (S3.g a d (g2 a d e))
      exact ⟨G3, ρ', _, R3, h', ⟨fun ρ4 h4 G4 σ4 H4 g4 R4 => ⟨G4, ρ4, gg g4, R4, h4⟩, o.rt, fun ρ4 h4 G4 σ4 H4 g4 R4 => o.nx ρ4 h4 G4 σ4 H4 (fun a d e => gg g4 a d (S1.g a d e)) R4, fun ρ4 h4 G4 σ4 H4 g4 R4 => ⟨G4, ρ4, gg g4, R4, h4⟩⟩⟩
    · have ei : i = xs.length := by omega
      subst ei
      exact .inl ⟨⟨vs2, hs2, by rw [r2.length]; exact Nat.le_refl _⟩, o.nx ρ2 (hd ρ2 p2) G2 σ2 H2 (fun a d e => g2 a d (S1.g a d e)) R2⟩
  | _ => exact (show False from hx).elim
theorem psc_forL {tg iter : Expr} {body : List Stmt} {g : TGd} (hp : PassesOwn (model X.prog X.w) X.A X.env X.xe) (hc : X.calm = true) (hi : PEc X E iter te) (hg : PGc X E tg g) (hb : PSsc X E body ts)
    (hs : ∀ x, foldedSetIterable iter X.env x = pure x := by intro _; rfl) : PSc X E (.For tg iter body [] pos) (dForL te g ts) := by
  refine PS.imp (ps_for hp hc (pi_list hi) hg hb hs) fun D σ H q => ?_
  obtain ⟨G, ρ, d, R, h, o⟩ := q
  refine ⟨G, ρ, _, R, h, fun x hx v G1 H1 S1 c1 r1 => ?_⟩
  cases x with
  | lst xs =>
    obtain ⟨Pv, p0, hturn, hd⟩ := hx
    obtain ⟨a, vs, rfl, ga, hs, rr⟩ := c1.lst (K := X.K) r1
    refine ⟨a, rfl, ⟨vs, hs⟩, ?_⟩
    refine ⟨fun i m σ H => m = xs.length - i ∧ i ≤ xs.length ∧ ∃ G' ρ, GSub G1 G' ∧ Rel E G' ρ σ H ∧ Pv i ρ, ⟨_, rfl, Nat.zero_le _, G1, ρ, fun _ _ e => e, R.go S1 c1, p0⟩, ?_⟩
    rintro i m σ2 H2 ⟨rfl, hi, G2, ρ2, g2, R2, p2⟩
    obtain ⟨vs2, h2, r2⟩ := R2.cons a _ (g2 a _ ga)
    have hs2 : SqL X.K H2 a vs2 := SqL.of h2
    by_cases hlt : i < xs.length
    · obtain ⟨w, ew, rw'⟩ := r2.get (List.getElem?_eq_getElem hlt)
      refine .inr ⟨⟨vs2, w, hs2, ew⟩, fun σ' H' => ∃ G' ρ, GSub G1 G' ∧ Rel E G' ρ σ' H' ∧ Pv (i + 1) ρ, fun σ' H' z => ⟨_, by omega, rfl, hlt, z⟩, fun x H' y => ?_⟩
      obtain ⟨e, y⟩ := y
      subst e
      have e2 : w = x := Option.some.inj (ew.symm.trans (y vs2 hs2))
      subst e2
      refine ⟨G2, ρ2, _, _, R2, rw', hturn i _ ρ2 (List.getElem?_eq_getElem hlt) p2, fun ρ' h' G3 σ3 H3 S3 R3 => ?_⟩
      have gg : ∀ {G'}, GSub G3 G' → GSub G1 G' := fun g a d e => g a d (S3.g a d (g2 a d e))
      exact ⟨G3, ρ', _, R3, h', ⟨fun ρ4 h4 G4 σ4 H4 g4 R4 => ⟨G4, ρ4, gg g4, R4, h4⟩, o.rt, fun ρ4 h4 G4 σ4 H4 g4 R4 => o.nx ρ4 h4 G4 σ4 H4 (fun a d e => gg g4 a d (S1.g a d e)) R4, fun ρ4 h4 G4 σ4 H4 g4 R4 => ⟨G4, ρ4, gg g4, R4, h4⟩⟩⟩
    · have ei : i = xs.length := by omega
      subst ei
      exact .inl ⟨⟨vs2, hs2, by rw [r2.length]; exact Nat.le_refl _⟩, o.nx ρ2 (hd ρ2 p2) G2 σ2 H2 (fun a d e => g2 a d (S1.g a d e)) R2⟩
  | _ => exact (show False from hx).elim
end
end Cc
set_option Elab.async false
set_option linter.all false
set_option maxRecDepth 100000
set_option maxHeartbeats 2000000
/-! LayC: ranges, texts, comprehensions, lists of a def's own, built-ins over data. -/
namespace Cc
open PySem PySem.Spec PyProof.Rows L2
section
variable {X : Cx} {E : Ent} {e a b c : Expr} {es : List Expr} {ta tb tc te : TEd} {tA tB : TTd} {t tr : TAd} {pos : Pos} {ts us : TSd} {i j : Nat} {x : Str}
/-! ### for over range -/
def loopRange (lo : Int) (n : Nat) (g : TGd) (tb : TSd) (D : Es) (ρ : En) : Prop := ∃ Pv : Nat → En → Prop, Pv 0 ρ ∧ (∀ i ρ, i < n → Pv i ρ → g (.int (lo + i)) ρ fun ρ2 => tb { nx := Pv (i + 1), ct := Pv (i + 1), bk := D.nx, rt := D.rt } ρ2) ∧ ∀ ρ, Pv n ρ → D.nx ρ
def inW (i : Int) : Prop := -(2 ^ 62) ≤ i ∧ i < 2 ^ 62
def dForR1 (t : TAd) (g : TGd) (tb : TSd) : TSd := fun D ρ => t ρ fun ds => match ds with
  | [.int j] => inW j ∧ loopRange 0 j.toNat g tb D ρ
  | _ => False
def dForR2 (t : TAd) (g : TGd) (tb : TSd) : TSd := fun D ρ => t ρ fun ds => match ds with
  | [.int i, .int j] => inW i ∧ inW j ∧ loopRange i (j - i).toNat g tb D ρ
  | _ => False
theorem range_core {g : TGd} {G G1 : Gh} {D : Ends} {d : Es} {σ : L2.St} {H1 : Hp} {ρ : En} {lo : Int} {n : Nat} (g0 : GSub G G1) (R : Rel E G1 ρ σ H1) (o : EsOk E G d D) (h : loopRange lo n g ts d ρ) :
    ∃ W : Nat → Nat → L2.St → Hp → Prop, (∃ m, W 0 m σ H1) ∧ ∀ i m σ H, W i m σ H →
      ((Itr lo n).stop i H ∧ D.nx σ H) ∨ ((Itr lo n).go i H ∧ ∃ N : L2.St → Hp → Prop, (∀ σ' H', N σ' H' → ∃ m', m' < m ∧ W (i + 1) m' σ' H') ∧ ∀ x H', (Itr lo n).yld i H x H' → liftG E g x σ H' fun σ2 H2 => liftS E ts { D with nx := N, ct := N, bk := D.nx } σ2 H2) := by
  obtain ⟨Pv, p0, hturn, hd⟩ := h
  refine ⟨fun i m σ H => m = n - i ∧ i ≤ n ∧ ∃ G' ρ, GSub G1 G' ∧ Rel E G' ρ σ H ∧ Pv i ρ, ⟨_, rfl, Nat.zero_le _, G1, ρ, fun _ _ e => e, R, p0⟩, ?_⟩
  rintro i m σ2 H2 ⟨rfl, hi, G2, ρ2, g2, R2, p2⟩
  by_cases hlt : i < n
  · refine .inr ⟨hlt, fun σ' H' => ∃ G' ρ, GSub G1 G' ∧ Rel E G' ρ σ' H' ∧ Pv (i + 1) ρ, fun σ' H' z => ⟨_, by omega, rfl, hlt, z⟩, fun x H' y => ?_⟩
    obtain ⟨e, y⟩ := y
    subst e
    subst y
    refine ⟨G2, ρ2, .int (lo + i), _, R2, rfl, hturn i ρ2 hlt p2, fun ρ' h' G3 σ3 H3 S3 R3 => ?_⟩
    have gg : ∀ {G'}, GSub G3 G' → GSub G1 G' := fun g a d e => g a d (S3.g a d (g2 a d e))
    exact ⟨G3, ρ', _, R3, h', ⟨fun ρ4 h4 G4 σ4 H4 g4 R4 => ⟨G4, ρ4, gg g4, R4, h4⟩, o.rt, fun ρ4 h4 G4 σ4 H4 g4 R4 => o.nx ρ4 h4 G4 σ4 H4 (fun a d e => gg g4 a d (g0 a d e)) R4, fun ρ4 h4 G4 σ4 H4 g4 R4 => ⟨G4, ρ4, gg g4, R4, h4⟩⟩⟩
  · have ei : i = n := by omega
    subst ei
    exact .inl ⟨Nat.le_refl _, o.nx ρ2 (hd ρ2 p2) G2 σ2 H2 (fun a d e => g2 a d (g0 a d e)) R2⟩
theorem psc_forR1 {tg : Expr} {body : List Stmt} {g : TGd} {p : Pos} {cpos : Pos} (hp : PassesOwn (model X.prog X.w) X.A X.env X.xe) (hc : X.calm = true) (hm : X.mg "range" = none) (ha : PAc X E [a] t) (hg : PGc X E tg g) (hb : PSsc X E body ts)
    (hgl : Gl X "range" := by rfl) (hs : starEach [a] X.env = [(false, eval a X.env)] := by rfl) (hfs : ∀ x, foldedSetIterable (.Call (.Name "range" p) [a] [] cpos) X.env x = pure x := by intro _; rfl) : PSc X E (.For tg (.Call (.Name "range" p) [a] [] cpos) body [] pos) (dForR1 t g ts) := by
  refine PS.imp (ps_for hp hc (pi_range1 hgl hm ha hs) hg hb hfs) fun D σ H q => ?_
  obtain ⟨G, ρ, d, R, h, o⟩ := q
  refine ⟨G, ρ, _, R, h, fun ds hds vs G1 H1 S1 c1 r1 => ?_⟩
  cases r1 with
  | nil => exact (show False from hds).elim
  | @cons v d1 vs' ds' r r' =>
    cases d1 with
    | int j =>
      cases r' with
      | nil =>
        cases (show v = .int j from r)
        obtain ⟨⟨h1, h2⟩, h3⟩ := hds
        exact ⟨j, rfl, h1, h2, range_core S1.g (R.go S1 c1) o h3⟩
      | cons _ _ => exact (show False from hds).elim
    | _ => cases r' <;> exact (show False from hds).elim
theorem psc_forR2 {tg : Expr} {body : List Stmt} {g : TGd} {p : Pos} {cpos : Pos} (hp : PassesOwn (model X.prog X.w) X.A X.env X.xe) (hc : X.calm = true) (hm : X.mg "range" = none) (ha : PAc X E [a, b] t) (hg : PGc X E tg g) (hb : PSsc X E body ts)
    (hgl : Gl X "range" := by rfl) (hs : starEach [a, b] X.env = [(false, eval a X.env), (false, eval b X.env)] := by rfl) (hs2 : starEach [b] X.env = [(false, eval b X.env)] := by rfl) (hfs : ∀ x, foldedSetIterable (.Call (.Name "range" p) [a, b] [] cpos) X.env x = pure x := by intro _; rfl) : PSc X E (.For tg (.Call (.Name "range" p) [a, b] [] cpos) body [] pos) (dForR2 t g ts) := by
  refine PS.imp (ps_for hp hc (pi_range2 hgl hm ha hs hs2) hg hb hfs) fun D σ H q => ?_
  obtain ⟨G, ρ, d, R, h, o⟩ := q
  refine ⟨G, ρ, _, R, h, fun ds hds vs G1 H1 S1 c1 r1 => ?_⟩
  cases r1 with
  | nil => exact (show False from hds).elim
  | @cons v d1 vs' ds' r r' =>
    cases r' with
    | nil => cases d1 <;> exact (show False from hds).elim
    | @cons v2 d2 vs2 ds2 r2 r2' =>
      cases r2' with
      | nil =>
        cases d1 with
        | int i =>
          cases d2 with
          | int j =>
            cases (show v = .int i from r)
            cases (show v2 = .int j from r2)
            obtain ⟨⟨h1, h2⟩, ⟨h3, h4⟩, h5⟩ := hds
            exact ⟨i, j, rfl, ⟨h1, h2, h3, h4⟩, range_core S1.g (R.go S1 c1) o h5⟩
          | _ => exact (show False from hds).elim
        | _ => cases d2 <;> exact (show False from hds).elim
      | cons _ _ => cases d1 <;> cases d2 <;> exact (show False from hds).elim
/-! ### for over a text -/
def loopText (z : Str) (g : TGd) (tb : TSd) (D : Es) (ρ : En) : Prop := ∃ Pv : Nat → En → Prop, Pv 0 ρ ∧ (∀ i k ρ, z.cps[i]? = some k → Pv i ρ → g (.str ⟨#[k]⟩) ρ fun ρ2 => tb { nx := Pv (i + 1), ct := Pv (i + 1), bk := D.nx, rt := D.rt } ρ2) ∧ ∀ ρ, Pv z.cps.size ρ → D.nx ρ
def dForS (te : TEd) (g : TGd) (tb : TSd) : TSd := fun D ρ => te ρ fun x => match x with
  | .str z => loopText z g tb D ρ
  | _ => False
theorem psc_forS {tg iter : Expr} {body : List Stmt} {g : TGd} (hp : PassesOwn (model X.prog X.w) X.A X.env X.xe) (hc : X.calm = true) (hi : PEc X E iter te) (hg : PGc X E tg g) (hb : PSsc X E body ts)
    (hs : ∀ x, foldedSetIterable iter X.env x = pure x := by intro _; rfl) : PSc X E (.For tg iter body [] pos) (dForS te g ts) := by
  refine PS.imp (ps_for hp hc (pi_str hi) hg hb hs) fun D σ H q => ?_
  obtain ⟨G, ρ, d, R, h, o⟩ := q
  refine ⟨G, ρ, _, R, h, fun x hx v G1 H1 S1 c1 r1 => ?_⟩
  cases x with
  | str z =>
    obtain ⟨Pv, p0, hturn, hd⟩ := hx
    refine ⟨z, r1, ?_⟩
    refine ⟨fun i m σ H => m = z.cps.size - i ∧ i ≤ z.cps.size ∧ ∃ G' ρ, GSub G1 G' ∧ Rel E G' ρ σ H ∧ Pv i ρ, ⟨_, rfl, Nat.zero_le _, G1, ρ, fun _ _ e => e, R.go S1 c1, p0⟩, ?_⟩
    rintro i m σ2 H2 ⟨rfl, hi, G2, ρ2, g2, R2, p2⟩
    by_cases hlt : i < z.cps.size
    · refine .inr ⟨hlt, fun σ' H' => ∃ G' ρ, GSub G1 G' ∧ Rel E G' ρ σ' H' ∧ Pv (i + 1) ρ, fun σ' H' z => ⟨_, by omega, rfl, hlt, z⟩, fun x H' y => ?_⟩
      obtain ⟨e, k, hk, y⟩ := y
      subst e
      subst y
      refine ⟨G2, ρ2, .str ⟨#[k]⟩, _, R2, rfl, hturn i k ρ2 hk p2, fun ρ' h' G3 σ3 H3 S3 R3 => ?_⟩
      have gg : ∀ {G'}, GSub G3 G' → GSub G1 G' := fun g a d e => g a d (S3.g a d (g2 a d e))
      exact ⟨G3, ρ', _, R3, h', ⟨fun ρ4 h4 G4 σ4 H4 g4 R4 => ⟨G4, ρ4, gg g4, R4, h4⟩, o.rt, fun ρ4 h4 G4 σ4 H4 g4 R4 => o.nx ρ4 h4 G4 σ4 H4 (fun a d e => gg g4 a d (S1.g a d e)) R4, fun ρ4 h4 G4 σ4 H4 g4 R4 => ⟨G4, ρ4, gg g4, R4, h4⟩⟩⟩
    · have ei : i = z.cps.size := by omega
      subst ei
      exact .inl ⟨Nat.le_refl _, o.nx ρ2 (hd ρ2 p2) G2 σ2 H2 (fun a d e => g2 a d (S1.g a d e)) R2⟩
  | _ => exact (show False from hx).elim
/-! ### comprehensions: one for, a name as target -/
/-- the element at the i-th item; xs: the items in order -/
def compOver (n : Nat) (at_ : Nat → D → Prop) (iv : Nat) (tt : TTd) (te : TEd) (ρ : En) (Q : D → Prop) : Prop :=
  ∃ Pv : Nat → List D → Prop, Pv 0 [] ∧ (∀ i x acc, i < n → at_ i x → Pv i acc → tt (st (st ρ iv .no) iv (.d x)) fun b => (b = true → te (st (st ρ iv .no) iv (.d x)) fun d => Pv (i + 1) (acc ++ [d])) ∧ (b = false → Pv (i + 1) acc)) ∧ ∀ acc, Pv n acc → Q (.lst acc)
theorem comp_core {J : It} {n : Nat} {at_ : Nat → D → Prop} {iv : Nat} {tt : TTd} {ρ : En} {σ : L2.St} {H1 : Hp} {Qd : D → Prop} {Q : VK} {G1 : Gh} (hn : n ≤ sizeLine) (R : Rel E G1 ρ σ H1)
    (go : ∀ i H G', i < n → GSub G1 G' → Cons G' H → J.go i H) (stop : ∀ H G', GSub G1 G' → Cons G' H → J.stop n H) (yl : ∀ i H G' v H', i < n → GSub G1 G' → Cons G' H → J.yld i H v H' → H' = H ∧ ∃ x, at_ i x ∧ Rp G' v x)
    (h : compOver n at_ iv tt te ρ Qd) (o : Outc G1 H1 Qd Q) : ∀ D, H1 D = none → ∃ W : Nat → Nat → Hp → Prop, (∃ m, W 0 m (upd H1 D (.lst []))) ∧ ∀ i m H, W i m H →
  (J.stop i H ∧ Q (.ref D) H) ∨ (J.go i H ∧ ∃ Nx : Hp → Prop, (∀ H', Nx H' → ∃ m', m' < m ∧ W (i + 1) m' H') ∧ ∀ x H', J.yld i H x H' → gName iv x (wipe σ [iv]) H' fun σ2 H2 => wipe σ2 [iv] = wipe σ [iv] ∧ liftT E tt σ2 H2 fun b H3 =>
    if b = true then liftE E te σ2 H3 fun y H4 => ∃ acc, H4 D = some (.lst acc) ∧ acc.length < sizeLine ∧ Nx (upd H4 D (.lst (acc ++ [y]))) else Nx H3) := by
  intro Dl nD
  obtain ⟨Pv, p0, hturn, hd⟩ := h
  have c1 := R.cons
  refine ⟨fun i m H => m = n - i ∧ i ≤ n ∧ ∃ G' acc vacc, Step G1 H1 G' H ∧ Cons G' H ∧ H Dl = some (.lst vacc) ∧ Rps G' vacc acc ∧ G' Dl = none ∧ acc.length ≤ i ∧ Pv i acc, ⟨_, rfl, Nat.zero_le _, G1, [], [], Step.new nD, c1.upd (c1.free nD), upd_same, .nil, c1.free nD, Nat.le_refl _, p0⟩, ?_⟩
  rintro i m H ⟨rfl, hi, G2, acc, vacc, S2, c2, hD, ra, gD, hl, p2⟩
  by_cases hlt : i < n
  · refine .inr ⟨go i H G2 hlt S2.g c2, fun H => ∃ G' acc vacc, Step G1 H1 G' H ∧ Cons G' H ∧ H Dl = some (.lst vacc) ∧ Rps G' vacc acc ∧ G' Dl = none ∧ acc.length ≤ i + 1 ∧ Pv (i + 1) acc, fun H' z => ⟨_, by omega, rfl, hlt, z⟩, fun v H' y => ?_⟩
    obtain ⟨e, x, hx, rx⟩ := yl i H G2 v H' hlt S2.g c2 y
    subst e
    have R2 : Rel E G2 (st ρ iv .no) (wipe σ [iv]) H' := (R.go S2 c2).drop
    have R3 : Rel E G2 (st (st ρ iv .no) iv (.d x)) ((wipe σ [iv]).set iv (some v)) H' := R2.putD rx
    have hw : wipe ((wipe σ [iv]).set iv (some v)) [iv] = wipe σ [iv] := by
      show (((σ.set iv none).set iv (some v)).set iv none) = σ.set iv none
      rw [List.set_set, List.set_set]
    refine ⟨hw, G2, _, _, R3, hturn i x acc hlt hx p2, fun b hb G4 H4 S4 c4 => ?_⟩
    have hD4 := S4.h Dl _ hD gD
    cases b with
    | false => exact ite_f rfl ⟨G4, acc, vacc, S2.trans S4, c4, hD4.1, ra.mono S4.g, hD4.2, by omega, hb.2 rfl⟩
    | true =>
      refine ite_t rfl ⟨G4, _, _, R3.go S4 c4, hb.1 rfl, fun d hd5 w G5 H5 S5 c5 r5 => ?_⟩
      have hD5 := S5.h Dl _ hD4.1 hD4.2
      have ra5 : Rps G5 vacc acc := (ra.mono S4.g).mono S5.g
      have S25 := (S2.trans S4).trans S5
      refine ⟨vacc, hD5.1, by rw [ra.length]; omega, G5, acc ++ [d], vacc ++ [w], ⟨S25.g, fun b u e m => ?_⟩, c5.upd hD5.2, upd_same, ra5.append (.cons r5 .nil), hD5.2, by rw [List.length_append]; show acc.length + 1 ≤ i + 1; omega, hd5⟩
      rw [upd_ne (ne_of_none e nD)]
      exact S25.h b u e m
  · have ei : i = n := by omega
    subst ei
    have gsub := gup_sub (d := .lst acc) gD
    exact .inl ⟨stop H G2 S2.g c2, o _ (hd acc p2) (.ref Dl) (gup G2 Dl (.lst acc)) H ⟨fun b d e => gsub b d (S2.g b d e), fun b u e m => by
      have q := S2.h b u e m
      exact ⟨q.1, by rw [gup_ne (ne_of_none e nD)]; exact q.2⟩⟩ (c2.put gD ⟨vacc, hD, ra.mono gsub⟩) ⟨Dl, rfl, gup_same⟩⟩
/-- [e for x in range(n) if t] -/
def dLcR (iv : Nat) (t : TAd) (tt : TTd) (te : TEd) : TEd := fun ρ Q => t ρ fun ds => match ds with
  | [.int j] => 0 ≤ j ∧ j ≤ 1000000 ∧ compOver j.toNat (fun i x => x = .int i) iv tt te ρ Q
  | _ => False
def dYes : TTd := fun _ Q => Q true
theorem ptsc_nil : PTs X [] (liftT E dYes) := ⟨fun _ _ _ H _ I ⟨G, _, _, R, h, o⟩ => wpAny_tests_nil ⟨H, I, o _ h G H .refl R.cons⟩⟩
theorem ptsc_one (h : PTc X E c tA) : PTs X [c] (liftT E tA) := pts_one h
theorem pec_lcR {elt : Expr} {ifs : List Expr} {scope : Scope} {y : Str} {iv : Nat} {p py cpos : Pos} {tt : TTd} (hc : X.calm = true) (hN : X.N.Nodup) (hm : X.mg "range" = none) (ha : PAc X E [a] t) (ok : BlkOk X.N X.env.scope scope [(y, iv)])
    (hg : ∀ (s : Shared) (H : Hp) (C : Addr) (cl : List (Str × Addr)) (fp : List Addr), PG (X.blk s H scope (compEnvC scope cl C X.env) fp) (.Name y py) (gName iv))
    (ht : ∀ (s : Shared) (H : Hp) (C : Addr) (cl : List (Str × Addr)) (fp : List Addr), PTs (X.blk s H scope (compEnvC scope cl C X.env) fp) ifs (liftT E tt))
    (he : ∀ (s : Shared) (H : Hp) (C : Addr) (cl : List (Str × Addr)) (fp : List Addr), PEc (X.blk s H scope (compEnvC scope cl C X.env) fp) E elt te)
    (hgl : Gl X "range" := by rfl) (hs : starEach [a] X.env = [(false, eval a X.env)] := by rfl) (hfs : ∀ x, foldedSetIterable (.Call (.Name "range" p) [a] [] cpos) X.env x = pure x := by intro _; rfl) :
    PEc X E (.ListComp elt [⟨.Name y py, .Call (.Name "range" p) [a] [] cpos, ifs, 0⟩] scope pos) (dLcR iv t tt te) := by
  refine PE.imp (pe_lc (own := [(y, iv)]) hc hN (pi_range1 hgl hm ha hs) ok hg ht he hfs) fun σ H Q q => ?_
  obtain ⟨G, ρ, Qd, R, h, o⟩ := q
  refine ⟨G, ρ, _, R, h, fun ds hds vs G1 H1 S1 c1 r1 => ?_⟩
  cases r1 with
  | nil => exact (show False from hds).elim
  | @cons v d1 vs' ds' r r' =>
    cases d1 with
    | int j =>
      cases r' with
      | nil =>
        cases (show v = .int j from r)
        obtain ⟨h1, h2, h3⟩ := hds
        refine ⟨j, rfl, by omega, by omega, ?_⟩
        refine comp_core (E := E) (G1 := G1) (H1 := H1) (n := j.toNat) (at_ := fun i x => x = .int i) (ρ := ρ) (by rw [sizeLine_eq]; omega) (R.go S1 c1) (fun i H G' hi _ _ => hi) (fun H G' _ _ => Nat.le_refl _) ?_ h3 fun d hd w G3 H3 S3 c3 r3 => o d hd w G3 H3 (S1.trans S3) c3 r3
        rintro i H G' v H' _ _ _ ⟨e1, e2⟩
        exact ⟨e1, .int i, rfl, by rw [e2, Int.zero_add]; rfl⟩
      | cons _ _ => exact (show False from hds).elim
    | _ => cases r' <;> exact (show False from hds).elim
theorem lst_len {K : PySem.W.Frag} {G : Gh} {H : Hp} (c : Cons G H) {a : Addr} {xs : List D} (g : G a = some (.lst xs)) : ∃ vs, SqL K H a vs ∧ Rps G vs xs := by
  obtain ⟨vs, h, q⟩ := c a _ g
  exact ⟨vs, SqL.of h, q⟩
theorem tup_len {K : PySem.W.Frag} {G : Gh} {H : Hp} (c : Cons G H) {a : Addr} {xs : List D} (g : G a = some (.tup xs)) : ∃ vs, SqT K H a vs ∧ Rps G vs xs := by
  obtain ⟨vs, h, q⟩ := c a _ g
  exact ⟨vs, SqT.of h, q⟩
def dLcT (iv : Nat) (tx : TEd) (tt : TTd) (te : TEd) : TEd := fun ρ Q => tx ρ fun x => match x with
  | .tup xs => xs.length ≤ 1000000 ∧ compOver xs.length (fun i x => xs[i]? = some x) iv tt te ρ Q
  | _ => False
def dLcL (iv : Nat) (tx : TEd) (tt : TTd) (te : TEd) : TEd := fun ρ Q => tx ρ fun x => match x with
  | .lst xs => xs.length ≤ 1000000 ∧ compOver xs.length (fun i x => xs[i]? = some x) iv tt te ρ Q
  | _ => False
theorem pec_lcT {elt iter : Expr} {ifs : List Expr} {scope : Scope} {y : Str} {iv : Nat} {py : Pos} {tt : TTd} {tx : TEd} (hc : X.calm = true) (hN : X.N.Nodup) (hx : PEc X E iter tx) (ok : BlkOk X.N X.env.scope scope [(y, iv)])
    (hg : ∀ (s : Shared) (H : Hp) (C : Addr) (cl : List (Str × Addr)) (fp : List Addr), PG (X.blk s H scope (compEnvC scope cl C X.env) fp) (.Name y py) (gName iv))
    (ht : ∀ (s : Shared) (H : Hp) (C : Addr) (cl : List (Str × Addr)) (fp : List Addr), PTs (X.blk s H scope (compEnvC scope cl C X.env) fp) ifs (liftT E tt))
    (he : ∀ (s : Shared) (H : Hp) (C : Addr) (cl : List (Str × Addr)) (fp : List Addr), PEc (X.blk s H scope (compEnvC scope cl C X.env) fp) E elt te)
    (hfs : ∀ x, foldedSetIterable iter X.env x = pure x := by intro _; rfl) :
    PEc X E (.ListComp elt [⟨.Name y py, iter, ifs, 0⟩] scope pos) (dLcT iv tx tt te) := by
  refine PE.imp (pe_lc (own := [(y, iv)]) hc hN (pi_tup hx) ok hg ht he hfs) fun σ H Q q => ?_
  obtain ⟨G, ρ, Qd, R, h, o⟩ := q
  refine ⟨G, ρ, _, R, h, fun x hx v G1 H1 S1 c1 r1 => ?_⟩
  cases x with
  | tup xs =>
    obtain ⟨a, vs, rfl, ga, hs, rr⟩ := c1.tup (K := X.K) r1
    refine ⟨a, rfl, ⟨vs, hs⟩, ?_⟩
    refine comp_core (E := E) (G1 := G1) (H1 := H1) (n := xs.length) (at_ := fun i x => xs[i]? = some x) (ρ := ρ) (by rw [sizeLine_eq]; have := hx.1; omega) (R.go S1 c1) ?_ ?_ ?_ hx.2 fun d hd w G3 H3 S3 c3 r3 => o d hd w G3 H3 (S1.trans S3) c3 r3
    · intro i H G' hi g c
      obtain ⟨vs', h', r'⟩ := tup_len (K := X.K) c (g a _ ga)
      obtain ⟨w, ew, _⟩ := r'.get (List.getElem?_eq_getElem hi)
      exact ⟨vs', w, h', ew⟩
    · intro H G' g c
      obtain ⟨vs', h', r'⟩ := tup_len (K := X.K) c (g a _ ga)
      exact ⟨vs', h', by rw [r'.length]; exact Nat.le_refl _⟩
    · rintro i H G' v H' hi g c ⟨e1, e2⟩
      obtain ⟨vs', h', r'⟩ := tup_len (K := X.K) c (g a _ ga)
      obtain ⟨x, ex, rx⟩ := r'.getV (e2 vs' h')
      exact ⟨e1, x, ex, rx⟩
  | _ => exact (show False from hx).elim
theorem pec_lcL {elt iter : Expr} {ifs : List Expr} {scope : Scope} {y : Str} {iv : Nat} {py : Pos} {tt : TTd} {tx : TEd} (hc : X.calm = true) (hN : X.N.Nodup) (hx : PEc X E iter tx) (ok : BlkOk X.N X.env.scope scope [(y, iv)])
    (hg : ∀ (s : Shared) (H : Hp) (C : Addr) (cl : List (Str × Addr)) (fp : List Addr), PG (X.blk s H scope (compEnvC scope cl C X.env) fp) (.Name y py) (gName iv))
    (ht : ∀ (s : Shared) (H : Hp) (C : Addr) (cl : List (Str × Addr)) (fp : List Addr), PTs (X.blk s H scope (compEnvC scope cl C X.env) fp) ifs (liftT E tt))
    (he : ∀ (s : Shared) (H : Hp) (C : Addr) (cl : List (Str × Addr)) (fp : List Addr), PEc (X.blk s H scope (compEnvC scope cl C X.env) fp) E elt te)
    (hfs : ∀ x, foldedSetIterable iter X.env x = pure x := by intro _; rfl) :
    PEc X E (.ListComp elt [⟨.Name y py, iter, ifs, 0⟩] scope pos) (dLcL iv tx tt te) := by
  refine PE.imp (pe_lc (own := [(y, iv)]) hc hN (pi_list hx) ok hg ht he hfs) fun σ H Q q => ?_
  obtain ⟨G, ρ, Qd, R, h, o⟩ := q
  refine ⟨G, ρ, _, R, h, fun x hx v G1 H1 S1 c1 r1 => ?_⟩
  cases x with
  | lst xs =>
    obtain ⟨a, vs, rfl, ga, hs, rr⟩ := c1.lst (K := X.K) r1
    refine ⟨a, rfl, ⟨vs, hs⟩, ?_⟩
    refine comp_core (E := E) (G1 := G1) (H1 := H1) (n := xs.length) (at_ := fun i x => xs[i]? = some x) (ρ := ρ) (by rw [sizeLine_eq]; have := hx.1; omega) (R.go S1 c1) ?_ ?_ ?_ hx.2 fun d hd w G3 H3 S3 c3 r3 => o d hd w G3 H3 (S1.trans S3) c3 r3
    · intro i H G' hi g c
      obtain ⟨vs', h', r'⟩ := lst_len (K := X.K) c (g a _ ga)
      obtain ⟨w, ew, _⟩ := r'.get (List.getElem?_eq_getElem hi)
      exact ⟨vs', w, h', ew⟩
    · intro H G' g c
      obtain ⟨vs', h', r'⟩ := lst_len (K := X.K) c (g a _ ga)
      exact ⟨vs', h', by rw [r'.length]; exact Nat.le_refl _⟩
    · rintro i H G' v H' hi g c ⟨e1, e2⟩
      obtain ⟨vs', h', r'⟩ := lst_len (K := X.K) c (g a _ ga)
      obtain ⟨x, ex, rx⟩ := r'.getV (e2 vs' h')
      exact ⟨e1, x, ex, rx⟩
  | _ => exact (show False from hx).elim
end
end Cc
set_option Elab.async false
set_option linter.all false
set_option maxRecDepth 100000
set_option maxHeartbeats 2000000
/-! LayD: lists and dicts of a def's own; texts; built-ins over data. -/
namespace Cc
open PySem PySem.Spec PyProof.Rows L2
section
variable {X : Cx} {E : Ent} {e a b c : Expr} {es : List Expr} {ta tb tc te : TEd} {tA tB : TTd} {t tr : TAd} {pos : Pos} {ts us : TSd} {i j l : Nat} {x y z : Str}
theorem Rel.entFree {G : Gh} {ρ : En} {σ : L2.St} {H : Hp} (R : Rel E G ρ σ H) {p : Addr} (n : H p = none) : E.H p = none := by
  cases q : E.H p with
  | none => rfl
  | some o =>
    cases g : E.G p with
    | none => have := (R.step.h p o q g).1; rw [n] at this; cases this
    | some d => exact absurd n (R.cons.there (R.step.g p d g))
theorem Rel.ownNe {G : Gh} {ρ : En} {σ : L2.St} {H : Hp} (R : Rel E G ρ σ H) {p : Addr} (n : H p = none) (k : Nat) (h : isOwn (gt ρ k) = true) : gv σ k ≠ some (.ref p) := by
  have s := R.slot k
  cases q : gt ρ k with
  | own xs =>
    rw [q] at s
    obtain ⟨a, vs, e, h1, _⟩ := s
    rw [e]
    intro z
    cases z
    rw [n] at h1; cases h1
  | dic kvs =>
    rw [q] at s
    obtain ⟨a, e, h1, _⟩ := s
    rw [e]
    intro z
    cases z
    rw [n] at h1; cases h1
  | no => rw [q] at h; cases h
  | d _ => rw [q] at h; cases h
/-- a new list of the def's own at a slot -/
theorem Rel.putOwn {G : Gh} {ρ : En} {σ : L2.St} {H : Hp} (R : Rel E G ρ σ H) {p : Addr} {vs : List V} {xs : List D} (n : H p = none) (r : Rps G vs xs) : Rel E G (st ρ i (.own xs)) (σ.set i (some (.ref p))) (upd H p (.lst vs)) := by
  have R' : Rel E G ρ σ (upd H p (.lst vs)) := R.go (Step.new n) (R.cons.upd (R.cons.free n))
  exact R'.put ⟨p, vs, rfl, upd_same, r, R.cons.free n, R.entFree n⟩ fun _ k _ hk => R.ownNe n k hk
theorem Rel.putDic {G : Gh} {ρ : En} {σ : L2.St} {H : Hp} (R : Rel E G ρ σ H) {p : Addr} (n : H p = none) : Rel E G (st ρ i (.dic [])) (σ.set i (some (.ref p))) (upd H p (.dT [])) := by
  have R' : Rel E G ρ σ (upd H p (.dT [])) := R.go (Step.new n) (R.cons.upd (R.cons.free n))
  exact R'.put ⟨p, rfl, upd_same, R.cons.free n, R.entFree n⟩ fun _ k _ hk => R.ownNe n k hk
theorem Rel.atOwn {G : Gh} {ρ : En} {σ : L2.St} {H : Hp} (R : Rel E G ρ σ H) {p : Addr} {vs : List V} {xs : List D} (h : H p = some (.lst vs)) (r : Rps G vs xs) (g : G p = none) (e : E.H p = none) (ap : ∀ k, isOwn (gt ρ k) = true → gv σ k ≠ some (.ref p)) : Rel E G (st ρ i (.own xs)) (σ.set i (some (.ref p))) H :=
  R.put (s := .own xs) (v := .ref p) ⟨p, vs, rfl, h, r, g, e⟩ fun _ k _ hk => ap k hk
theorem Rel.atDic {G : Gh} {ρ : En} {σ : L2.St} {H : Hp} (R : Rel E G ρ σ H) {p : Addr} {kvs : List (List Int × Int)} (h : H p = some (.dT (kvs.map fun p => (p.1.map Sum.inl, V.int p.2)))) (g : G p = none) (e : E.H p = none) (ap : ∀ k, isOwn (gt ρ k) = true → gv σ k ≠ some (.ref p)) : Rel E G (st ρ i (.dic kvs)) (σ.set i (some (.ref p))) H :=
  R.put (s := .dic kvs) (v := .ref p) ⟨p, rfl, h, g, e⟩ fun _ k _ hk => ap k hk
/-- x = [..], a list of its own -/
def dSetNew (i : Nat) (t : TAd) : TSd := fun D ρ => t ρ fun xs => Nat.ble xs.length 1000 = true ∧ D.nx (st ρ i (.own xs))
theorem psc_setNew {pos' lpos : Pos} (hN : X.N.Nodup) (h : PAc X E es t) (hi : X.N[i]? = some y := by rfl) (hx : Loc X.env.scope y := by first | exact .inl rfl | exact .inr rfl) (hs : swapsWith (.List es lpos) (some (.Name y pos')) pos.line X.env = pure false := by rfl) (hf : X.fn y = true ∨ X.env.scope.names.lookup y = some .local := by first | exact .inl rfl | exact .inr rfl) :
    PSc X E (.Assign [.Name y pos'] (.List es lpos) pos) (dSetNew i t) := by
  refine PS.imp (ps_set hN hi hx (pe_lst h) hs hf) fun D σ H q => ?_
  obtain ⟨G, ρ, d, R, h, o⟩ := q
  refine ⟨G, ρ, _, R, h, fun xs hxs vs G' H' S c r => ⟨by rw [r.length]; exact len_line hxs.1, fun p np => ?_⟩⟩
  exact o.nx _ hxs.2 G' _ _ S.g ((R.go S c).putOwn np r)
/-- a, b = [..], e -/
def dParOD (i j : Nat) (t : TAd) (te : TEd) : TSd := fun D ρ => t ρ fun xs => Nat.ble xs.length 1000 = true ∧ te ρ fun d => D.nx (st (st ρ i (.own xs)) j (.d d))
theorem psc_parOD {i j : Nat} {px py pt lpos : Pos} {kt k2 pt2} (hc : X.calm = true) (hN : X.N.Nodup) (h : PAc X E es t) (hb : PEc X E b te) (hi : X.N[i]? = some y := by rfl) (hj : X.N[j]? = some z := by rfl) (hij : i ≠ j := by decide)
    (hx : X.env.scope.names.lookup y = some .local := by rfl) (hy : X.env.scope.names.lookup z = some .local := by rfl)
    (hs1 : starEach [.List es lpos, b] X.env = (false, eval (.List es lpos) X.env) :: starEach [b] X.env := by rfl) (hs2 : starEach [b] X.env = (false, eval b X.env) :: starEach [] X.env := by rfl)
    (hw : swappedStores [.Tuple [.Name y px, .Name z py] kt pt] (.Tuple [.List es lpos, b] k2 pt2) X.env = pure (some [y, z]) := by rfl)
    (hs : swapsWithSole [.Tuple [.Name y px, .Name z py] kt pt] (.Tuple [.List es lpos, b] k2 pt2) pos.line X.env = pure false := by rfl) :
    PSc X E (.Assign [.Tuple [.Name y px, .Name z py] kt pt] (.Tuple [.List es lpos, b] k2 pt2) pos) (dParOD i j t te) := by
  refine PS.imp (ps_par hc hN hi hj hij hx hy (pa_cons (pe_lst h) (pa_cons hb pa_nil hs2) hs1) hw hs) fun D σ H q => ?_
  obtain ⟨G, ρ, d, R, h, o⟩ := q
  refine ⟨G, ρ, _, R, h, fun xs hxs vs G1 H1 S1 c1 r1 => ⟨by rw [r1.length]; exact len_line hxs.1, fun p np => ?_⟩⟩
  have R1 := R.go S1 c1
  have n1 := c1.free np
  have R2 : Rel E G1 ρ σ (upd H1 p (.lst vs)) := R1.go (Step.new np) (c1.upd n1)
  refine ⟨G1, ρ, _, R2, hxs.2, fun d' hd v G3 H3 S3 c3 r3 => ⟨_, _, rfl, ?_⟩⟩
  have hp := S3.h p _ upd_same n1
  have R3 := R2.go S3 c3
  refine o.nx _ hd G3 _ H3 (fun a d e => S3.g a d (S1.g a d e)) (Rel.putD (R3.atOwn hp.1 (r1.mono S3.g) hp.2 (R1.entFree np) fun k hk => R1.ownNe np k hk) r3)
/-- a, b, c = [..], e, f -/
def dPar3ODD (i j l : Nat) (t : TAd) (te tf : TEd) : TSd := fun D ρ => t ρ fun xs => Nat.ble xs.length 1000 = true ∧ te ρ fun d => tf ρ fun f => D.nx (st (st (st ρ i (.own xs)) j (.d d)) l (.d f))
theorem psc_par3ODD {i j l : Nat} {w : Str} {tf : TEd} {px py pz pt lpos : Pos} {kt k2 pt2} (hc : X.calm = true) (hN : X.N.Nodup) (h : PAc X E es t) (hb : PEc X E b te) (hf : PEc X E c tf) (hi : X.N[i]? = some y := by rfl) (hj : X.N[j]? = some z := by rfl) (hl : X.N[l]? = some w := by rfl) (hij : i ≠ j := by decide) (hil : i ≠ l := by decide) (hjl : j ≠ l := by decide)
    (hx : X.env.scope.names.lookup y = some .local := by rfl) (hy : X.env.scope.names.lookup z = some .local := by rfl) (hz : X.env.scope.names.lookup w = some .local := by rfl)
    (hs1 : starEach [.List es lpos, b, c] X.env = (false, eval (.List es lpos) X.env) :: starEach [b, c] X.env := by rfl) (hs2 : starEach [b, c] X.env = (false, eval b X.env) :: starEach [c] X.env := by rfl) (hs3 : starEach [c] X.env = (false, eval c X.env) :: starEach [] X.env := by rfl)
    (hw : swappedStores [.Tuple [.Name y px, .Name z py, .Name w pz] kt pt] (.Tuple [.List es lpos, b, c] k2 pt2) X.env = pure (some [y, z, w]) := by rfl)
    (hs : swapsWithSole [.Tuple [.Name y px, .Name z py, .Name w pz] kt pt] (.Tuple [.List es lpos, b, c] k2 pt2) pos.line X.env = pure false := by rfl) :
    PSc X E (.Assign [.Tuple [.Name y px, .Name z py, .Name w pz] kt pt] (.Tuple [.List es lpos, b, c] k2 pt2) pos) (dPar3ODD i j l t te tf) := by
  refine PS.imp (ps_par3 hc hN hi hj hl hij hil hjl hx hy hz (pa_cons (pe_lst h) (pa_cons hb (pa_cons hf pa_nil hs3) hs2) hs1) hw hs) fun D σ H q => ?_
  obtain ⟨G, ρ, d, R, h, o⟩ := q
  refine ⟨G, ρ, _, R, h, fun xs hxs vs G1 H1 S1 c1 r1 => ⟨by rw [r1.length]; exact len_line hxs.1, fun p np => ?_⟩⟩
  have R1 := R.go S1 c1
  have n1 := c1.free np
  have R2 : Rel E G1 ρ σ (upd H1 p (.lst vs)) := R1.go (Step.new np) (c1.upd n1)
  refine ⟨G1, ρ, _, R2, hxs.2, fun d' hd v G3 H3 S3 c3 r3 => ?_⟩
  refine ⟨G3, ρ, _, R2.go S3 c3, hd, fun d4 hd4 v4 G4 H4 S4 c4 r4 => ⟨_, _, _, rfl, ?_⟩⟩
  have S34 := S3.trans S4
  have hp := S34.h p _ upd_same n1
  have R4 := R2.go S34 c4
  refine o.nx _ hd4 G4 _ H4 (fun a d e => S34.g a d (S1.g a d e)) (Rel.putD (Rel.putD (R4.atOwn hp.1 (r1.mono S34.g) hp.2 (R1.entFree np) fun k hk => R1.ownNe np k hk) (r3.mono S4.g)) r4)
/-- a, b = [..], [..] -/
def dParOO (i j : Nat) (t u : TAd) : TSd := fun D ρ => t ρ fun xs => Nat.ble xs.length 1000 = true ∧ u ρ fun ys => Nat.ble ys.length 1000 = true ∧ D.nx (st (st ρ i (.own xs)) j (.own ys))
theorem psc_parOO {i j : Nat} {fs : List Expr} {u : TAd} {px py pt lpos lpos2 : Pos} {kt k2 pt2} (hc : X.calm = true) (hN : X.N.Nodup) (h : PAc X E es t) (h2 : PAc X E fs u) (hi : X.N[i]? = some y := by rfl) (hj : X.N[j]? = some z := by rfl) (hij : i ≠ j := by decide)
    (hx : X.env.scope.names.lookup y = some .local := by rfl) (hy : X.env.scope.names.lookup z = some .local := by rfl)
    (hs1 : starEach [.List es lpos, .List fs lpos2] X.env = (false, eval (.List es lpos) X.env) :: starEach [.List fs lpos2] X.env := by rfl) (hs2 : starEach [.List fs lpos2] X.env = (false, eval (.List fs lpos2) X.env) :: starEach [] X.env := by rfl)
    (hw : swappedStores [.Tuple [.Name y px, .Name z py] kt pt] (.Tuple [.List es lpos, .List fs lpos2] k2 pt2) X.env = pure (some [y, z]) := by rfl)
    (hs : swapsWithSole [.Tuple [.Name y px, .Name z py] kt pt] (.Tuple [.List es lpos, .List fs lpos2] k2 pt2) pos.line X.env = pure false := by rfl) :
    PSc X E (.Assign [.Tuple [.Name y px, .Name z py] kt pt] (.Tuple [.List es lpos, .List fs lpos2] k2 pt2) pos) (dParOO i j t u) := by
  refine PS.imp (ps_par hc hN hi hj hij hx hy (pa_cons (pe_lst h) (pa_cons (pe_lst h2) pa_nil hs2) hs1) hw hs) fun D σ H q => ?_
  obtain ⟨G, ρ, d, R, h, o⟩ := q
  refine ⟨G, ρ, _, R, h, fun xs hxs vs G1 H1 S1 c1 r1 => ⟨by rw [r1.length]; exact len_line hxs.1, fun p np => ?_⟩⟩
  have R1 := R.go S1 c1
  have n1 := c1.free np
  have R2 : Rel E G1 ρ σ (upd H1 p (.lst vs)) := R1.go (Step.new np) (c1.upd n1)
  refine ⟨G1, ρ, _, R2, hxs.2, fun ys hys ws G3 H3 S3 c3 r3 => ⟨by rw [r3.length]; exact len_line hys.1, fun p2 np2 => ⟨_, _, rfl, ?_⟩⟩⟩
  have hp := S3.h p _ upd_same n1
  have R3 := R2.go S3 c3
  exact o.nx _ hys.2 G3 _ _ (fun a d e => S3.g a d (S1.g a d e)) ((R3.atOwn hp.1 (r1.mono S3.g) hp.2 (R1.entFree np) fun k hk => R1.ownNe np k hk).putOwn np2 r3)
/-- a, b = {}, e -/
def dParKD (i j : Nat) (te : TEd) : TSd := fun D ρ => te ρ fun d => D.nx (st (st ρ i (.dic [])) j (.d d))
theorem psc_parKD {i j : Nat} {px py pt lpos : Pos} {kt k2 pt2} (hc : X.calm = true) (hN : X.N.Nodup) (hb : PEc X E b te) (hi : X.N[i]? = some y := by rfl) (hj : X.N[j]? = some z := by rfl) (hij : i ≠ j := by decide)
    (hx : X.env.scope.names.lookup y = some .local := by rfl) (hy : X.env.scope.names.lookup z = some .local := by rfl)
    (hs1 : starEach [.Dict [] [] lpos, b] X.env = (false, eval (.Dict [] [] lpos) X.env) :: starEach [b] X.env := by rfl) (hs2 : starEach [b] X.env = (false, eval b X.env) :: starEach [] X.env := by rfl)
    (hw : swappedStores [.Tuple [.Name y px, .Name z py] kt pt] (.Tuple [.Dict [] [] lpos, b] k2 pt2) X.env = pure (some [y, z]) := by rfl)
    (hs : swapsWithSole [.Tuple [.Name y px, .Name z py] kt pt] (.Tuple [.Dict [] [] lpos, b] k2 pt2) pos.line X.env = pure false := by rfl) :
    PSc X E (.Assign [.Tuple [.Name y px, .Name z py] kt pt] (.Tuple [.Dict [] [] lpos, b] k2 pt2) pos) (dParKD i j te) := by
  refine PS.imp (ps_par hc hN hi hj hij hx hy (pa_cons pe_dnewT (pa_cons hb pa_nil hs2) hs1) hw hs) fun D σ H q => ?_
  obtain ⟨G, ρ, d, R, h, o⟩ := q
  intro p np
  have n1 := R.cons.free np
  have R2 : Rel E G ρ σ (upd H p (.dT [])) := R.go (Step.new np) (R.cons.upd n1)
  refine ⟨G, ρ, _, R2, h, fun d' hd v G3 H3 S3 c3 r3 => ⟨_, _, rfl, ?_⟩⟩
  have hp := S3.h p _ upd_same n1
  have R3 := R2.go S3 c3
  exact o.nx _ hd G3 _ H3 S3.g (Rel.putD (R3.atDic (kvs := []) hp.1 hp.2 (R.entFree np) fun k hk => R.ownNe np k hk) r3)
/-- a slot's own list gets a ghost: data from here on -/
def asOwn (Q : List D → Prop) : Sl → Prop
  | .own xs => Q xs
  | _ => False
def dFreeze (i : Nat) (t : TSd) : TSd := fun D ρ => asOwn (fun xs => t D (st ρ i (.d (.lst xs)))) (gt ρ i)
theorem Rel.freeze {G : Gh} {ρ : En} {σ : L2.St} {H : Hp} (R : Rel E G ρ σ H) {xs : List D} (h : gt ρ i = .own xs) : ∃ G', GSub G G' ∧ Rel E G' (st ρ i (.d (.lst xs))) σ H := by
  have s := R.slot i
  rw [h] at s
  obtain ⟨a, vs, e, ha, r, g, eh⟩ := s
  have sub : GSub G (gup G a (.lst xs)) := gup_sub g
  have cons' : Cons (gup G a (.lst xs)) H := R.cons.put g ⟨vs, ha, r.mono sub⟩
  refine ⟨gup G a (.lst xs), sub, cons', ⟨fun b d q => sub b d (R.step.g b d q), fun b o q m => ?_⟩, by rw [st_length]; exact R.len, fun k => ?_, fun k m a' hkm h1 h2 h3 h4 => ?_⟩
  · have z := R.step.h b o q m
    refine ⟨z.1, ?_⟩
    rw [gup_ne]
    · exact z.2
    · rintro rfl
      rw [eh] at q; cases q
  · by_cases ek : i = k
    · subst ek
      rcases gt_st_same ρ i (.d (.lst xs)) with q | q
      · rw [q]; exact ⟨_, e, a, rfl, gup_same⟩
      · rw [q]; trivial
    · rw [gt_st ρ i k _ ek]
      have sk := R.slot k
      cases q : gt ρ k with
      | no => trivial
      | d x => rw [q] at sk; obtain ⟨u, e1, r1⟩ := sk; exact ⟨u, e1, r1.mono sub⟩
      | own ys =>
        rw [q] at sk
        obtain ⟨a2, vs2, e2, h2, r2, g2, eh2⟩ := sk
        refine ⟨a2, vs2, e2, h2, r2.mono sub, ?_, eh2⟩
        rw [gup_ne]
        · exact g2
        · rintro rfl
          exact R.apart i k a2 ek (by rw [h]; rfl) (by rw [q]; rfl) e e2
      | dic ys =>
        rw [q] at sk
        obtain ⟨a2, e2, h2, g2, eh2⟩ := sk
        refine ⟨a2, e2, h2, ?_, eh2⟩
        rw [gup_ne]
        · exact g2
        · rintro rfl
          exact R.apart i k a2 ek (by rw [h]; rfl) (by rw [q]; rfl) e e2
  · have nk : i ≠ k := fun e => by
      subst e
      rcases gt_st_same ρ i (.d (.lst xs)) with q | q <;> (rw [q] at h1; cases h1)
    have nm : i ≠ m := fun e => by
      subst e
      rcases gt_st_same ρ i (.d (.lst xs)) with q | q <;> (rw [q] at h2; cases h2)
    rw [gt_st ρ i k _ nk] at h1
    rw [gt_st ρ i m _ nm] at h2
    exact R.apart k m a' hkm h1 h2 h3 h4
theorem pssc_freeze {sts : List Stmt} (i : Nat) (h : PSsc X E sts ts) : PSsc X E sts (dFreeze i ts) := by
  refine PSs.imp h fun D σ H q => ?_
  obtain ⟨G, ρ, d, R, h, o⟩ := q
  unfold dFreeze asOwn at h
  cases q : gt ρ i with
  | own xs =>
    rw [q] at h
    obtain ⟨G', g', R'⟩ := R.freeze q
    exact ⟨G', _, d, R', h, o.sub g'⟩
  | _ => rw [q] at h; exact h.elim
/-- an own object changes -/
theorem Rel.own {G G' : Gh} {ρ : En} {σ : L2.St} {H H' : Hp} (R : Rel E G ρ σ H) {xs ys : List D} {vs : List V} {a : Addr} (h : gt ρ i = .own xs) (ha : gv σ i = some (.ref a)) (r : Rps G vs ys) : Rel E G (st ρ i (.own ys)) σ (upd H a (.lst vs)) := by
  have s := R.slot i
  rw [h] at s
  obtain ⟨a', vs', e, hh, _, g, eh⟩ := s
  rw [e] at ha
  cases ha
  refine ⟨R.cons.upd g, ⟨R.step.g, fun b o q m => ?_⟩, by rw [st_length]; exact R.len, fun k => ?_, fun k m a' hkm h1 h2 h3 h4 => ?_⟩
  · have z := R.step.h b o q m
    refine ⟨?_, z.2⟩
    rw [upd_ne]
    · exact z.1
    · rintro rfl
      rw [eh] at q; cases q
  · by_cases ek : i = k
    · subst ek
      rcases gt_st_same ρ i (.own ys) with q | q
      · rw [q]; exact ⟨a, vs, e, upd_same, r, g, eh⟩
      · rw [q]; trivial
    · rw [gt_st ρ i k _ ek]
      have sk := R.slot k
      cases q : gt ρ k with
      | no => trivial
      | d x => rw [q] at sk; exact sk
      | own zs =>
        rw [q] at sk
        obtain ⟨a2, vs2, e2, h2, r2, g2, eh2⟩ := sk
        refine ⟨a2, vs2, e2, ?_, r2, g2, eh2⟩
        rw [upd_ne]
        · exact h2
        · rintro rfl
          exact R.apart i k a2 ek (by rw [h]; rfl) (by rw [q]; rfl) e e2
      | dic zs =>
        rw [q] at sk
        obtain ⟨a2, e2, h2, g2, eh2⟩ := sk
        refine ⟨a2, e2, ?_, g2, eh2⟩
        rw [upd_ne]
        · exact h2
        · rintro rfl
          exact R.apart i k a2 ek (by rw [h]; rfl) (by rw [q]; rfl) e e2
  · have f : ∀ n, isOwn (gt (st ρ i (.own ys)) n) = true → isOwn (gt ρ n) = true := fun n z => by
      by_cases en : i = n
      · subst en; rw [h]; rfl
      · rw [gt_st ρ i n _ en] at z; exact z
    exact R.apart k m a' hkm (f k h1) (f m h2) h3 h4
theorem Rel.dic {G : Gh} {ρ : En} {σ : L2.St} {H : Hp} (R : Rel E G ρ σ H) {xs ys : List (List Int × Int)} {a : Addr} (h : gt ρ i = .dic xs) (ha : gv σ i = some (.ref a)) : Rel E G (st ρ i (.dic ys)) σ (upd H a (.dT (ys.map fun p => (p.1.map Sum.inl, V.int p.2)))) := by
  have s := R.slot i
  rw [h] at s
  obtain ⟨a', e, hh, g, eh⟩ := s
  rw [e] at ha
  cases ha
  refine ⟨R.cons.upd g, ⟨R.step.g, fun b o q m => ?_⟩, by rw [st_length]; exact R.len, fun k => ?_, fun k m a' hkm h1 h2 h3 h4 => ?_⟩
  · have z := R.step.h b o q m
    refine ⟨?_, z.2⟩
    rw [upd_ne]
    · exact z.1
    · rintro rfl
      rw [eh] at q; cases q
  · by_cases ek : i = k
    · subst ek
      rcases gt_st_same ρ i (.dic ys) with q | q
      · rw [q]; exact ⟨a, e, upd_same, g, eh⟩
      · rw [q]; trivial
    · rw [gt_st ρ i k _ ek]
      have sk := R.slot k
      cases q : gt ρ k with
      | no => trivial
      | d x => rw [q] at sk; exact sk
      | own zs =>
        rw [q] at sk
        obtain ⟨a2, vs2, e2, h2, r2, g2, eh2⟩ := sk
        refine ⟨a2, vs2, e2, ?_, r2, g2, eh2⟩
        rw [upd_ne]
        · exact h2
        · rintro rfl
          exact R.apart i k a2 ek (by rw [h]; rfl) (by rw [q]; rfl) e e2
      | dic zs =>
        rw [q] at sk
        obtain ⟨a2, e2, h2, g2, eh2⟩ := sk
        refine ⟨a2, e2, ?_, g2, eh2⟩
        rw [upd_ne]
        · exact h2
        · rintro rfl
          exact R.apart i k a2 ek (by rw [h]; rfl) (by rw [q]; rfl) e e2
  · have f : ∀ n, isOwn (gt (st ρ i (.dic ys)) n) = true → isOwn (gt ρ n) = true := fun n z => by
      by_cases en : i = n
      · subst en; rw [h]; rfl
      · rw [gt_st ρ i n _ en] at z; exact z
    exact R.apart k m a' hkm (f k h1) (f m h2) h3 h4
/-- x.append(e) -/
def dAppend (i : Nat) (te : TEd) : TSd := fun D ρ => asOwn (fun xs => xs.length < 1000000 ∧ te ρ fun d => D.nx (st ρ i (.own (xs ++ [d])))) (gt ρ i)
theorem psc_append {p apos cpos : Pos} (he : PEc X E e te) (hi : X.N[i]? = some y := by rfl) (hv : Vis X.env.scope y := by first | exact .inl rfl | exact .inr (.inl rfl) | exact .inr (.inr rfl)) (hd : (y == ("__debug__" : Str)) = false := by decide) (hcd : (y == ("__classdict__" : Str)) = false := by decide)
    (hst : starEach [e] X.env = (false, eval e X.env) :: starEach [] X.env := by rfl) (hbase : attributeBase (.Name y p) "append" X.env (eval (.Name y p) X.env) = eval (.Name y p) X.env := by rfl) (hline : (apos.endLine == cpos.line) = true := by rfl)
       (hfew : ((backTo cpos (starEach [e] X.env)).all (fun x => !x.1) && (backToKw cpos (keywordEach [] X.env)).all (fun x => x.1.isSome)
      && decide ([e].length + ([] : List Keyword).length + (if ([] : List Keyword).isEmpty then 0 else 1) < 30)) = true := by rfl) (hplain : (backTo cpos (starEach [] X.env)).any (·.1) = false := by rfl)
    (hs : swapsWith (.Call (.Attribute (.Name y p) "append" apos) [e] [] cpos) none pos.line X.env = pure false := by rfl) :
    PSc X E (.Expr (.Call (.Attribute (.Name y p) "append" apos) [e] [] cpos) pos) (dAppend i te) := by
  refine PS.imp (ps_expr (pe_bm PySem.F.plainAttrs_list PySem.F.slot_list_append PySem.F.type_list_append mt_append (pe_var hi hv hd hcd) (pa_cons he pa_nil hst) hbase hfew hline hst hplain) hs) fun D σ H q => ?_
  obtain ⟨G, ρ, d, R, h, o⟩ := q
  unfold dAppend asOwn at h
  have s := R.slot i
  cases q : gt ρ i with
  | own xs =>
    rw [q] at h s
    obtain ⟨a, vs, ea, ha, r, g, eh⟩ := s
    refine ⟨_, gv_some ea, .inl ⟨rfl, _, SqL.of ha⟩, G, ρ, _, R, h.2, fun d' hd' v G' H' S c rv => ?_⟩
    have R' := R.go S c
    have ha' := S.h a _ ha g
    refine ⟨a, vs, v, rfl, rfl, ha'.1, by rw [r.length, sizeLine_eq]; have := h.1; omega, ?_⟩
    exact o.nx _ hd' G' σ _ S.g (R'.own (G' := G') (H' := H') q ea ((r.mono S.g).append (.cons rv .nil)))
  | _ => rw [q] at h; exact h.elim
/-- x = y.pop(), y a list of its own -/
def dSetPop (i j : Nat) : TSd := fun D ρ => asOwn (fun xs => ∃ ys d, xs = ys ++ [d] ∧ D.nx (st (st ρ j (.own ys)) i (.d d))) (gt ρ j)
theorem psc_setPop {pos' p apos cpos : Pos} (hN : X.N.Nodup) (hi : X.N[i]? = some x := by rfl) (hj : X.N[j]? = some y := by rfl) (hx : Loc X.env.scope x := by first | exact .inl rfl | exact .inr rfl) (hf : X.fn x = true ∨ X.env.scope.names.lookup x = some .local := by first | exact .inl rfl | exact .inr rfl)
    (hv : Vis X.env.scope y := by first | exact .inl rfl | exact .inr (.inl rfl) | exact .inr (.inr rfl)) (hd : (y == ("__debug__" : Str)) = false := by decide) (hcd : (y == ("__classdict__" : Str)) = false := by decide)
    (hbase : attributeBase (.Name y p) "pop" X.env (eval (.Name y p) X.env) = eval (.Name y p) X.env := by rfl) (hline : (apos.endLine == cpos.line) = true := by rfl)
    (hs : swapsWith (.Call (.Attribute (.Name y p) "pop" apos) [] [] cpos) (some (.Name x pos')) pos.line X.env = pure false := by rfl) :
    PSc X E (.Assign [.Name x pos'] (.Call (.Attribute (.Name y p) "pop" apos) [] [] cpos) pos) (dSetPop i j) := by
  refine PS.imp (ps_set hN hi hx (pe_bm0 PySem.F.plainAttrs_list PySem.F.slot_list_pop PySem.F.type_list_pop mt_pop (pe_var hj hv hd hcd) hbase hline) hs hf) fun D σ H q => ?_
  obtain ⟨G, ρ, d, R, h, o⟩ := q
  unfold dSetPop asOwn at h
  have s := R.slot j
  cases q : gt ρ j with
  | own xs =>
    rw [q] at h s
    obtain ⟨a, vs, ea, ha, r, g, eh⟩ := s
    obtain ⟨ys, dd, rfl, hn⟩ := h
    have hl := r.length
    rw [List.length_append] at hl
    have hl' : vs.length = ys.length + 1 := hl
    have hx : (ys ++ [dd])[ys.length]? = some dd := by simp
    obtain ⟨w, ew, rw'⟩ := r.get hx
    have r' : Rps G vs.dropLast ys := by
      have := Rps.take ys.length r
      rw [List.take_left] at this
      rw [List.dropLast_eq_take, hl']
      exact this
    refine ⟨_, gv_some ea, .inl ⟨rfl, _, SqL.of ha⟩, a, vs, w, rfl, rfl, ha, by rw [hl']; exact ew, ?_⟩
    exact o.nx _ hn G _ _ (fun _ _ e => e) ((R.own (G' := G) (H' := H) q ea r').putD rw')
  | _ => rw [q] at h; exact h.elim
/-- len(x), x a list of its own -/
def dLenOwn (i : Nat) : TEd := fun ρ Q => asOwn (fun xs => Q (.int xs.length)) (gt ρ i)
theorem pec_lenOwn {p p' : Pos} (hm : X.mg "len" = none) (hi : X.N[i]? = some y := by rfl) (hv : Vis X.env.scope y := by first | exact .inl rfl | exact .inr (.inl rfl) | exact .inr (.inr rfl)) (hd : (y == ("__debug__" : Str)) = false := by decide) (hcd : (y == ("__classdict__" : Str)) = false := by decide) (hg : Gl X "len" := by rfl)
    (hst : starEach [.Name y p] X.env = (false, eval (.Name y p) X.env) :: starEach [] X.env := by rfl) : PEc X E (.Call (.Name "len" p') [.Name y p] [] pos) (dLenOwn i) := by
  refine PE.imp (pe_callB call_len_seq hg hm PySem.boot_len (pa_cons (pe_var hi hv hd hcd) pa_nil hst)) fun σ H Q q => ?_
  obtain ⟨G, ρ, Qd, R, h, o⟩ := q
  unfold dLenOwn asOwn at h
  have s := R.slot i
  cases q : gt ρ i with
  | own xs =>
    rw [q] at h s
    obtain ⟨a, vs, ea, ha, r, g, eh⟩ := s
    exact ⟨_, gv_some ea, a, vs, rfl, .inl (SqL.of ha), o _ h _ G H .refl R.cons (by rw [r.length]; rfl)⟩
  | _ => rw [q] at h; exact h.elim
/-- x.extend(e) -/
def dExtend (i : Nat) (te : TEd) : TSd := fun D ρ => asOwn (fun xs => te ρ fun d => match d with
  | .lst ys => xs.length + ys.length ≤ 1000000 ∧ D.nx (st ρ i (.own (xs ++ ys)))
  | _ => False) (gt ρ i)
theorem psc_extend {p apos cpos : Pos} (he : PEc X E e te) (hi : X.N[i]? = some y := by rfl) (hv : Vis X.env.scope y := by first | exact .inl rfl | exact .inr (.inl rfl) | exact .inr (.inr rfl)) (hd : (y == ("__debug__" : Str)) = false := by decide) (hcd : (y == ("__classdict__" : Str)) = false := by decide)
    (hst : starEach [e] X.env = (false, eval e X.env) :: starEach [] X.env := by rfl) (hbase : attributeBase (.Name y p) "extend" X.env (eval (.Name y p) X.env) = eval (.Name y p) X.env := by rfl) (hline : (apos.endLine == cpos.line) = true := by rfl)
       (hfew : ((backTo cpos (starEach [e] X.env)).all (fun x => !x.1) && (backToKw cpos (keywordEach [] X.env)).all (fun x => x.1.isSome)
      && decide ([e].length + ([] : List Keyword).length + (if ([] : List Keyword).isEmpty then 0 else 1) < 30)) = true := by rfl) (hplain : (backTo cpos (starEach [] X.env)).any (·.1) = false := by rfl)
    (hs : swapsWith (.Call (.Attribute (.Name y p) "extend" apos) [e] [] cpos) none pos.line X.env = pure false := by rfl) :
    PSc X E (.Expr (.Call (.Attribute (.Name y p) "extend" apos) [e] [] cpos) pos) (dExtend i te) := by
  refine PS.imp (ps_expr (pe_bm PySem.F.plainAttrs_list PySem.F.slot_list_extend PySem.F.type_list_extend mt_extend (pe_var hi hv hd hcd) (pa_cons he pa_nil hst) hbase hfew hline hst hplain) hs) fun D σ H q => ?_
  obtain ⟨G, ρ, d, R, h, o⟩ := q
  unfold dExtend asOwn at h
  have s := R.slot i
  cases q : gt ρ i with
  | own xs =>
    rw [q] at h s
    obtain ⟨a, vs, ea, ha, r, g, eh⟩ := s
    refine ⟨_, gv_some ea, .inl ⟨rfl, _, SqL.of ha⟩, G, ρ, _, R, h, fun d' hd' v G' H' S c rv => ?_⟩
    have R' := R.go S c
    have ha' := S.h a _ ha g
    cases d' with
    | lst ys =>
      obtain ⟨b, rfl, gb⟩ := rv
      obtain ⟨ws, hb, rb⟩ := c b _ gb
      refine ⟨a, b, vs, ws, rfl, rfl, ha'.1, hb, by rw [r.length, rb.length, sizeLine_eq]; have := hd'.1; omega, ?_⟩
      exact o.nx _ hd'.2 G' σ _ S.g (R'.own (G' := G') (H' := H') q ea ((r.mono S.g).append rb))
    | _ => exact (show False from hd').elim
  | _ => rw [q] at h; exact h.elim
end
end Cc
set_option Elab.async false
set_option linter.all false
set_option maxRecDepth 100000
set_option maxHeartbeats 2000000
/-! LayE: built-in functions, texts, slices, isinstance, is of bools, calls by keywords, over data. -/
namespace Cc
open PySem PySem.Spec PyProof.Rows L2
section
variable {X : Cx} {E : Ent} {e a b c : Expr} {es : List Expr} {ta tb tc te : TEd} {tA tB : TTd} {t tr : TAd} {pos p : Pos} {ts us : TSd} {i j l : Nat} {x y z : Str}
def dNo : TEd := fun _ _ => False
theorem pec_never : PEc X E e dNo := ⟨fun _ _ _ _ _ _ h => (show False from let ⟨_, _, _, _, q, _⟩ := h; q).elim⟩
theorem pac_never : PAc X E es (fun _ _ => False) := ⟨fun _ _ _ _ _ _ _ h => (show False from let ⟨_, _, _, _, q, _⟩ := h; q).elim⟩
/-- int(x), abs(x), str(x), ord(x) -/
def RInt : RAd := fun ds Q => match ds with
  | [.int i] => Q (.int i)
  | _ => False
def RAbs : RAd := fun ds Q => match ds with
  | [.int i] => Q (.int (if i < 0 then -i else i))
  | _ => False
def RStr : RAd := fun ds Q => match ds with
  | [.int i] => i.natAbs.log2 < 1920 ∧ Q (.str (toString i))
  | _ => False
def ROrd : RAd := fun ds Q => match ds with
  | [.str z] => z.length = 1 ∧ Q (.int (z.cps.getD 0 0 : Nat))
  | _ => False
def RSqrt : RAd := fun ds Q => match ds with
  | [.int i] => 0 ≤ i ∧ i < 2 ^ 64 ∧ Q (.int ((Float64.isqrt i.toNat : Nat) : Int))
  | _ => False
def one1 {C : Int → Prop} {g : Int → D} {r : List V → Hp → VK → Prop} (hr : ∀ i G H Qd Q, C i → Qd (g i) → Outc G H Qd Q → Cons G H → r [.int i] H Q) : FitA r fun ds Q => match ds with
    | [.int i] => C i ∧ Q (g i)
    | _ => False := by
  intro G H vs ds Qd Q c r h o
  cases r with
  | nil => exact h.elim
  | @cons v d vs' ds' r1 r2 =>
    cases r2 with
    | nil =>
      cases d with
      | int i => cases (show v = .int i from r1); exact hr i G H Qd Q h.1 h.2 o c
      | _ => exact h.elim
    | cons _ _ => cases d <;> exact h.elim
theorem FitA.mono {r : List V → Hp → VK → Prop} {rd rd' : RAd} (f : FitA r rd) (h : ∀ ds Q, rd' ds Q → rd ds Q) : FitA r rd' := fun G H vs ds Qd Q c rr q o => f G H vs ds Qd Q c rr (h ds Qd q) o
theorem fitInt : FitA (fun xs H Q => (∃ i, xs = [V.int i] ∧ Q (V.int i) H) ∨ ∃ k, xs = [V.bl k] ∧ Q (.int (if k then 1 else 0)) H) RInt :=
  FitA.mono (rd := fun ds Q => match ds with
    | [.int i] => True ∧ Q (.int i)
    | _ => False) (one1 (C := fun _ => True) (g := fun i => .int i) fun i G H Qd Q _ h o c => .inl ⟨i, rfl, o _ h _ G H .refl c rfl⟩) fun ds Q h => by
    unfold RInt at h
    split at h
    · exact ⟨trivial, h⟩
    · exact h.elim
theorem pec_intc (hm : X.mg "int" = none) (ha : PAc X E [e] t) (hg : Gl X "int" := by rfl) (hs : starEach [e] X.env = (false, eval e X.env) :: starEach [] X.env := by rfl) (hpl : (backTo pos (starEach [] X.env)).any (·.1) = false := by rfl) : PEc X E (.Call (.Name "int" p) [e] [] pos) (dCB RInt t) :=
  pec_callTy call_int1 fitInt hg hm rfl ha (by decide) (by decide) hs hpl
theorem pec_absc (hm : X.mg "abs" = none) (ha : PAc X E [e] t) (hg : Gl X "abs" := by rfl) (hs : starEach [e] X.env = (false, eval e X.env) :: starEach [] X.env := by rfl) (hpl : (backTo pos (starEach [] X.env)).any (·.1) = false := by rfl) : PEc X E (.Call (.Name "abs" p) [e] [] pos) (dCB RAbs t) := by
  refine pec_callB call_abs ?_ hg hm rfl ha (by decide) (by decide) hs hpl
  refine FitA.mono (rd := fun ds Q => match ds with
    | [.int i] => True ∧ Q (.int (if i < 0 then -i else i))
    | _ => False) (one1 (C := fun _ => True) (g := fun i => .int (if i < 0 then -i else i)) fun i G H Qd Q _ h o c => ⟨i, rfl, o _ h _ G H .refl c rfl⟩) fun ds Q h => ?_
  unfold RAbs at h
  split at h
  · exact ⟨trivial, h⟩
  · exact h.elim
theorem pec_strc (hm : X.mg "str" = none) (ha : PAc X E [e] t) (hg : Gl X "str" := by rfl) (hs : starEach [e] X.env = (false, eval e X.env) :: starEach [] X.env := by rfl) (hpl : (backTo pos (starEach [] X.env)).any (·.1) = false := by rfl) : PEc X E (.Call (.Name "str" p) [e] [] pos) (dCB RStr t) := by
  refine pec_callTy call_str_int ?_ hg hm rfl ha (by decide) (by decide) hs hpl
  exact FitA.mono (one1 (C := fun i => i.natAbs.log2 < 1920) (g := fun i => .str (toString i)) fun i G H Qd Q hz h o c => ⟨i, rfl, hz, o _ h _ G H .refl c rfl⟩) fun ds Q h => h
theorem cr_isqrt : CallR X (.builtin "math.isqrt") (fun vs H Q => ∃ i, vs = [V.int i] ∧ 0 ≤ i ∧ i < 2 ^ 64 ∧ Q (.int ((Float64.isqrt i.toNat : Nat) : Int)) H) := by
  intro pins s σ H vs us Q I r h
  obtain ⟨a, rfl, h0, h1, q⟩ := h
  obtain ⟨u, rfl, t, rfl⟩ := vals1 r
  exact PySem.W.mg_isqrt h0 h1 ⟨.int _, H, I.tok _, ⟨_, rfl⟩, q⟩
theorem pec_sqrt (hm : X.mg x = some (.builtin "math.isqrt")) (ha : PAc X E [e] t) (hg : Gl X x := by rfl) (hdb : (x == ("__debug__" : Str)) = false := by decide) (hs : starEach [e] X.env = (false, eval e X.env) :: starEach [] X.env := by rfl) (hpl : (backTo pos (starEach [] X.env)).any (·.1) = false := by rfl) : PEc X E (.Call (.Name x p) [e] [] pos) (dCB RSqrt t) := by
  refine pec_callBf cr_isqrt ?_ hg hm ha hdb hs hpl
  refine FitA.mono (one1 (C := fun i => 0 ≤ i ∧ i < 2 ^ 64) (g := fun i => .int ((Float64.isqrt i.toNat : Nat) : Int)) fun i G H Qd Q hz h o c => ⟨i, rfl, hz.1, hz.2, o _ h _ G H .refl c rfl⟩) fun ds Q h => ?_
  unfold RSqrt at h
  split at h
  · exact ⟨⟨h.1, h.2.1⟩, h.2.2⟩
  · exact h.elim
theorem pec_ordc (hm : X.mg "ord" = none) (ha : PAc X E [e] t) (hg : Gl X "ord" := by rfl) (hs : starEach [e] X.env = (false, eval e X.env) :: starEach [] X.env := by rfl) (hpl : (backTo pos (starEach [] X.env)).any (·.1) = false := by rfl) : PEc X E (.Call (.Name "ord" p) [e] [] pos) (dCB ROrd t) := by
  refine pec_callB call_ord ?_ hg hm rfl ha (by decide) (by decide) hs hpl
  intro G H vs ds Qd Q c r h o
  cases r with
  | nil => exact h.elim
  | @cons v d vs' ds' r1 r2 =>
    cases r2 with
    | nil =>
      cases d with
      | str z => cases (show v = .str z from r1); exact ⟨z, rfl, h.1, o _ h.2 _ G H .refl c rfl⟩
      | _ => exact (show False from h).elim
    | cons _ _ => cases d <;> exact (show False from h).elim
/-- len(x) -/
def RLen : RAd := fun ds Q => match ds with
  | [.str z] => z.length ≤ sizeLine ∧ Q (.int (z.length : Nat))
  | [.tup xs] => Q (.int (xs.length : Nat))
  | [.lst xs] => Q (.int (xs.length : Nat))
  | _ => False
theorem pec_lenc (hm : X.mg "len" = none) (ha : PAc X E [e] t) (hg : Gl X "len" := by rfl) (hs : starEach [e] X.env = (false, eval e X.env) :: starEach [] X.env := by rfl) (hpl : (backTo pos (starEach [] X.env)).any (·.1) = false := by rfl) : PEc X E (.Call (.Name "len" p) [e] [] pos) (dCB RLen t) := by
  refine pec_callB call_len ?_ hg hm rfl ha (by decide) (by decide) hs hpl
  intro G H vs ds Qd Q c r h o
  cases r with
  | nil => exact h.elim
  | @cons v d vs' ds' r1 r2 =>
    cases r2 with
    | nil =>
      cases d with
      | str z => cases (show v = .str z from r1); exact ⟨.str z, z.length, rfl, ⟨h.1, rfl⟩, o _ h.2 _ G H .refl c rfl⟩
      | tup xs =>
        obtain ⟨a, vs, rfl, g, hs, rr⟩ := c.tup (K := X.K) r1
        exact ⟨.ref a, xs.length, rfl, .inr ⟨vs, hs, rr.length.symm⟩, o _ h _ G H .refl c rfl⟩
      | lst xs =>
        obtain ⟨a, vs, rfl, g, hs, rr⟩ := c.lst (K := X.K) r1
        exact ⟨.ref a, xs.length, rfl, .inl ⟨vs, hs, rr.length.symm⟩, o _ h _ G H .refl c rfl⟩
      | _ => exact (show False from h).elim
    | cons _ _ => cases d <;> exact (show False from h).elim
/-- x.bit_length() -/
def dBits (te : TEd) : TEd := fun ρ Q => te ρ fun d => match d with
  | .int i => Q (.int (Builtin.Int.intBits i : Nat))
  | _ => False
theorem pec_bits {apos : Pos} (he : PEc X E e te) (hbase : attributeBase e "bit_length" X.env (eval e X.env) = eval e X.env := by rfl) (hline : (apos.endLine == pos.line) = true := by rfl) : PEc X E (.Call (.Attribute e "bit_length" apos) [] [] pos) (dBits te) := by
  refine PE.imp (pe_bits he hbase hline) fun σ H Q q => ?_
  obtain ⟨G, ρ, Qd, R, h, o⟩ := q
  refine ⟨G, ρ, _, R, h, fun d hd v G' H' S c r => ?_⟩
  cases d with
  | int i => exact ⟨i, r, o _ hd _ G' H' S c rfl⟩
  | _ => exact (show False from hd).elim
/-- text * int -/
def MuS : R2d := fun a b Q => match a, b with
  | .str z, .int n => z.length * n.toNat ≤ 16777216 ∧ n < 2 ^ 40 ∧ -(2 ^ 40) < n ∧ Q (.str (Txt.mul z n))
  | _, _ => False
theorem mul_ok {z : Str} {n : Int} (h : z.length * n.toNat ≤ 16777216) (h1 : n < 2 ^ 40) (h2 : -(2 ^ 40) < n) : PySem.MulOk z n := by
  refine ⟨?_, fun a b c => ?_, fun a b => ?_⟩
  · have e : (2 : Int) ^ 63 = 9223372036854775808 := by decide
    have e2 : (2 : Int) ^ 40 = 1099511627776 := by decide
    rw [Bool.or_eq_false_iff]
    exact ⟨decide_eq_false (by omega), decide_eq_false (by omega)⟩
  · have hn : 0 < n := by omega
    have e2 : (2 : Int) ^ 63 - 1 = 9223372036854775807 := by decide
    rw [e2] at c
    have c2 : (9223372036854775807 : Int) < (z.length : Int) * n := by
      have := Int.lt_mul_of_ediv_lt hn c
      rw [Int.mul_comm] at this
      first | exact this | (rw [Int.mul_comm]; exact this)
    have c3 : (z.length : Int) * n = ((z.length * n.toNat : Nat) : Int) := by
      rw [Int.natCast_mul, Int.toNat_of_nonneg (by omega)]
    rw [c3] at c2
    omega
  · unfold Builtin.Str.tooLong
    have : sizeLine = 16777216 := sizeLine_eq
    exact decide_eq_false (by omega)
theorem op_mulS : OpR X (binaryOp .Mult) (fun x y H Q => ∃ z n, x = .str z ∧ y = .int n ∧ PySem.MulOk z n ∧ Q (.str (Txt.mul z n)) H) := by
  intro pins s σ H x y v u Q I rx ry h
  obtain ⟨z, n, rfl, rfl, ok, q⟩ := h
  obtain ⟨t, rfl⟩ := rx
  obtain ⟨t2, rfl⟩ := ry
  exact PySem.SB.mul ok fun t' k => ⟨.str _, H, I.tok _, ⟨_, rfl⟩, q⟩
theorem pec_mulS (ha : PEc X E a ta) (hb : PEc X E b tb) : PEc X E (.BinOp a .Mult b pos) (dOp MuS ta tb) := by
  refine pec_op op_mulS ?_ ha hb
  intro G H x y a b Qd Q c rx ry h o
  cases a with
  | str z =>
    cases b with
    | int n =>
      cases (show x = .str z from rx)
      cases (show y = .int n from ry)
      exact ⟨z, n, rfl, rfl, mul_ok h.1 h.2.1 h.2.2.1, o _ h.2.2.2 _ G H .refl c rfl⟩
    | _ => exact (show False from h).elim
  | _ => exact (show False from h).elim
/-- xs + ys, [..] * k -/
def CatL : R2d := fun a b Q => match a, b with
  | .lst xs, .lst ys => xs.length + ys.length ≤ 1000000 ∧ Q (.lst (xs ++ ys))
  | _, _ => False
theorem pec_cat (ha : PEc X E a ta) (hb : PEc X E b tb) : PEc X E (.BinOp a .Add b pos) (dOp CatL ta tb) := by
  refine pec_op op_cat ?_ ha hb
  intro G H x y a b Qd Q c rx ry h o
  cases a with
  | lst xs =>
    cases b with
    | lst ys =>
      obtain ⟨p, rfl, g⟩ := rx
      obtain ⟨p', rfl, g'⟩ := ry
      obtain ⟨vs, hv, rr⟩ := c p _ g
      obtain ⟨vs', hv', rr'⟩ := c p' _ g'
      refine ⟨p, p', vs, vs', rfl, rfl, hv, hv', by rw [rr.length, rr'.length, sizeLine_eq]; have := h.1; omega, fun q nq => ?_⟩
      obtain ⟨s, c', r⟩ := new_lst c nq (rr.append rr')
      exact o _ h.2 _ _ _ s c' r
    | _ => exact (show False from h).elim
  | _ => exact (show False from h).elim
theorem Rps.rep {G : Gh} {vs : List V} {xs : List D} (r : Rps G vs xs) : ∀ k : Nat, Rps G (List.replicate k vs).flatten (List.replicate k xs).flatten
  | 0 => .nil
  | k + 1 => by
    rw [List.replicate_succ, List.replicate_succ, List.flatten_cons, List.flatten_cons]
    exact r.append (Rps.rep r k)
def RepL : R2d := fun a b Q => match a, b with
  | .lst xs, .int k => -1000000 ≤ k ∧ k ≤ 1000000 ∧ xs.length * k.toNat ≤ 1000000 ∧ Q (.lst (List.replicate k.toNat xs).flatten)
  | _, _ => False
theorem pec_rep (ha : PEc X E a ta) (hb : PEc X E b tb) : PEc X E (.BinOp a .Mult b pos) (dOp RepL ta tb) := by
  refine pec_op op_rep ?_ ha hb
  intro G H x y a b Qd Q c rx ry h o
  cases a with
  | lst xs =>
    cases b with
    | int k =>
      obtain ⟨p, rfl, g⟩ := rx
      cases (show y = .int k from ry)
      obtain ⟨vs, hv, rr⟩ := c p _ g
      refine ⟨p, k, vs, rfl, rfl, hv, by have := h.1; omega, by have := h.2.1; omega, by rw [rr.length, sizeLine_eq]; have := h.2.2.1; omega, fun q nq => ?_⟩
      obtain ⟨s, c', r⟩ := new_lst c nq (rr.rep k.toNat)
      exact o _ h.2.2.2 _ _ _ s c' r
    | _ => exact (show False from h).elim
  | _ => exact (show False from h).elim
/-- x not in (ints) -/
def asInts : List D → Option (List Int)
  | [] => some []
  | .int n :: r => (asInts r).map (n :: ·)
  | _ :: _ => none
theorem asInts_map : ∀ {xs : List D} {ns : List Int}, asInts xs = some ns → xs = ns.map D.int
  | [], ns, h => by simp [asInts] at h; subst h; rfl
  | d :: r, ns, h => by
    cases d with
    | int n =>
      simp only [asInts, Option.map_eq_some_iff] at h
      obtain ⟨ms, hm, rfl⟩ := h
      rw [asInts_map hm]; rfl
    | _ => simp [asInts] at h
theorem flat_ints : ∀ ns : List Int, (ns.map V.int).all flatV = true
  | [] => rfl
  | n :: r => by rw [List.map_cons, List.all_cons, flat_ints r]; rfl
theorem inV_ints (n : Int) : ∀ ns : List Int, inV (.int n) (ns.map V.int) = decide (n ∈ ns)
  | [] => by simp [inV]
  | m :: r => by
    have h := inV_ints n r
    unfold inV at h ⊢
    rw [List.map_cons, List.any_cons, h]
    by_cases e : n = m
    · subst e; simp [eqV]
    · have e' : ¬ m = n := fun z => e z.symm
      simp [eqV, e, e']
def NotInI : R2d := fun a b Q => match a, b with
  | .int n, .tup xs => ∃ ns, asInts xs = some ns ∧ Q (.bl (!decide (n ∈ ns)))
  | _, _ => False
theorem pec_notInI (ha : PEc X E a ta) (hb : PEc X E b tb) (hm : behindInMarks .NotIn b = false := by first | exact nobehind _ (by decide) (by decide) | rfl) : PEc X E (.Compare a [.NotIn] [b] pos) (dOp NotInI ta tb) := by
  refine pec_cmp op_notIn_seq ?_ ha hb hm
  intro G H x y a b Qd Q c rx ry h o
  cases a with
  | int n =>
    cases b with
    | tup xs =>
      cases (show x = .int n from rx)
      obtain ⟨ns, e, q⟩ := h
      rw [asInts_map e] at ry
      obtain ⟨p, vs, rfl, g, hs, rr⟩ := c.tup (K := X.K) ry
      rw [rr.of_ints] at hs
      refine ⟨p, _, rfl, .inr hs, rfl, flat_ints ns, ?_⟩
      rw [inV_ints]
      exact o _ q _ G H .refl c rfl
    | _ => exact (show False from h).elim
  | _ => exact (show False from h).elim
/-- tuple(list) -/
def RTup : RAd := fun ds Q => match ds with
  | [.lst xs] => Q (.tup xs)
  | _ => False
theorem pec_tuplec (hm : X.mg "tuple" = none) (ha : PAc X E [e] t) (hg : Gl X "tuple" := by rfl) (hs : starEach [e] X.env = (false, eval e X.env) :: starEach [] X.env := by rfl) (hpl : (backTo pos (starEach [] X.env)).any (·.1) = false := by rfl) : PEc X E (.Call (.Name "tuple" p) [e] [] pos) (dCB RTup t) := by
  refine pec_callTy call_tuple_of ?_ hg hm rfl ha (by decide) (by decide) hs hpl
  intro G H vs ds Qd Q c r h o
  cases r with
  | nil => exact h.elim
  | @cons v d vs' ds' r1 r2 =>
    cases r2 with
    | nil =>
      cases d with
      | lst xs =>
        obtain ⟨a, vs, rfl, g, hs, rr⟩ := c.lst (K := X.K) r1
        refine ⟨a, vs, rfl, .inl ⟨hs, fun l nl => ?_⟩⟩
        obtain ⟨s, c', r⟩ := new_tup c nl rr
        exact o _ h _ _ _ s c' r
      | _ => exact (show False from h).elim
    | cons _ _ => cases d <;> exact (show False from h).elim
/-- z[:hi] of a text -/
def dCut (te th : TEd) : TEd := fun ρ Q => te ρ fun d => match d with
  | .str z => th ρ fun h => match h with
    | .int k => z.length ≤ sizeLine ∧ Q (.str (cutS z none (some k)))
    | _ => False
  | _ => False
theorem pec_cut {hi : Expr} {th : TEd} {p2 : Pos} (he : PEc X E e te) (hh : PEc X E hi th) : PEc X E (.Subscript e (.Slice none (some hi) none p2) pos) (dCut te th) := by
  refine PE.imp (pe_slice sl_str he po_none (po_some hh)) fun σ H Q q => ?_
  obtain ⟨G, ρ, Qd, R, h, o⟩ := q
  refine ⟨G, ρ, _, R, h, fun d hd v G1 H1 S1 c1 r1 => ?_⟩
  cases d with
  | str z =>
    cases (show v = .str z from r1)
    refine ⟨G1, ρ, _, R.go S1 c1, hd, fun d2 hd2 v2 G2 H2 S2 c2 r2 => ?_⟩
    cases d2 with
    | int k => exact ⟨k, r2, z, rfl, hd2.1, o _ hd2.2 _ G2 H2 (S1.trans S2) c2 rfl⟩
    | _ => exact (show False from hd2).elim
  | _ => exact (show False from hd).elim
/-- sep.join(list of texts) -/
def asStrs : List D → Option (List Str)
  | [] => some []
  | .str n :: r => (asStrs r).map (n :: ·)
  | _ :: _ => none
theorem asStrs_map : ∀ {xs : List D} {ns : List Str}, asStrs xs = some ns → xs = ns.map D.str
  | [], ns, h => by simp [asStrs] at h; subst h; rfl
  | d :: r, ns, h => by
    cases d with
    | str n =>
      simp only [asStrs, Option.map_eq_some_iff] at h
      obtain ⟨ms, hm, rfl⟩ := h
      rw [asStrs_map hm]; rfl
    | _ => simp [asStrs] at h
theorem of_strs {G : Gh} : ∀ {vs : List V} {ns : List Str}, Rps G vs (ns.map D.str) → vs = ns.map V.str
  | [], [], _ => rfl
  | _ :: _, [], h => by cases h
  | [], _ :: _, h => by cases h
  | v :: vs, n :: ns, h => by
    cases h with
    | cons r t =>
      have e : v = .str n := r
      rw [e, of_strs t]
      rfl
def dJoin (ta te : TEd) : TEd := fun ρ Q => ta ρ fun d => match d with
  | .str z => te ρ fun h => match h with
    | .lst xs => ∃ ys, asStrs xs = some ys ∧ (ys.map (·.length)).sum + ys.length * z.length ≤ 16777216 ∧ Q (.str (Txt.join z ys))
    | _ => False
  | _ => False
theorem pec_join {apos : Pos} (ha : PEc X E a ta) (he : PEc X E e te) (hs : starEach [e] X.env = [(false, eval e X.env)] := by rfl) (hbase : attributeBase a "join" X.env (eval a X.env) = eval a X.env := by rfl) (hline : (apos.endLine == pos.line) = true := by rfl) :
    PEc X E (.Call (.Attribute a "join" apos) [e] [] pos) (dJoin ta te) := by
  refine PE.imp (pe_join ha he hs hbase hline) fun σ H Q q => ?_
  obtain ⟨G, ρ, Qd, R, h, o⟩ := q
  refine ⟨G, ρ, _, R, h, fun d hd v G1 H1 S1 c1 r1 => ?_⟩
  cases d with
  | str z =>
    cases (show v = .str z from r1)
    refine ⟨⟨z, rfl⟩, G1, ρ, _, R.go S1 c1, hd, fun d2 hd2 v2 G2 H2 S2 c2 r2 => ?_⟩
    cases d2 with
    | lst xs =>
      obtain ⟨ys, e, hz, q⟩ := hd2
      rw [asStrs_map e] at r2
      obtain ⟨p, vs, rfl, g, hs, rr⟩ := c2.lst (K := X.K) r2
      rw [of_strs rr] at hs
      exact ⟨z, p, ys, rfl, rfl, .inl hs, hz, o _ q _ G2 H2 (S1.trans S2) c2 rfl⟩
    | _ => exact (show False from hd2).elim
  | _ => exact (show False from hd).elim
end
end Cc
set_option Elab.async false
set_option linter.all false
set_option maxRecDepth 100000
set_option maxHeartbeats 2000000
/-! LayF: isinstance, is of bools, lists unpacked, calls by keywords, dicts of a def's own. -/
namespace Cc
open PySem PySem.Spec PyProof.Rows L2
section
variable {X : Cx} {E : Ent} {e a b c : Expr} {es : List Expr} {ta tb tc te : TEd} {tA tB : TTd} {t tr : TAd} {pos p : Pos} {ts us : TSd} {i j l : Nat} {x y z : Str}
/-! ### isinstance(x, T) -/
def kindD : D → Option String
  | .non => some "NoneType"
  | .bl _ => some "bool"
  | .int _ => some "int"
  | .str _ => some "str"
  | .tup _ => some "tuple"
  | .lst _ => some "list"
  | _ => none
theorem ty_of {K : PySem.W.Frag} {G : Gh} {H : Hp} (c : Cons G H) {v : V} {d : D} (r : Rp G v d) {k : String} (h : kindD d = some k) : TyX K H v (.type k) := by
  cases d with
  | non => cases (show v = .non from r); cases h; exact .base .non
  | bl b => cases (show v = .bl b from r); cases h; exact .base (.bl b)
  | int i => cases (show v = .int i from r); cases h; exact .base (.int i)
  | str z => cases (show v = .str z from r); cases h; exact .base (.str z)
  | tup xs =>
    obtain ⟨a, rfl, g⟩ := r
    obtain ⟨vs, hv, _⟩ := c a _ g
    cases h
    exact .base (.tup hv)
  | lst xs =>
    obtain ⟨a, rfl, g⟩ := r
    obtain ⟨vs, hv, _⟩ := c a _ g
    cases h
    exact .base (.lst hv)
  | _ => cases h
def dIsi (T : String) (te : TEd) : TEd := fun ρ Q => te ρ fun d => ∃ k r, kindD d = some k ∧ kitB k T = some r ∧ Q (.bl r)
theorem pec_isi {T : String} {p' : Pos} {n : Str} (hm : X.mg "isinstance" = none) (hm2 : X.mg n = none) (hv : bootBuiltins n = some (.type T)) (he : PEc X E e te) (hg : Gl X "isinstance" := by rfl) (hg2 : Gl X n := by rfl) (hn : n ≠ "__name__" := by decide) (hdb : (n == ("__debug__" : Str)) = false := by decide)
    (hs1 : starEach [e, .Name n p'] X.env = (false, eval e X.env) :: starEach [.Name n p'] X.env := by rfl) (hs2 : starEach [.Name n p'] X.env = (false, eval (.Name n p') X.env) :: starEach [] X.env := by rfl)
    (hpl : (backTo pos (starEach [.Name n p'] X.env)).any (·.1) = false := by rfl) : PEc X E (.Call (.Name "isinstance" p) [e, .Name n p'] [] pos) (dIsi T te) := by
  refine PE.imp (pe_callB call_isi hg hm rfl (pa_cons he (pa_cons (pe_bltn hg2 hm2 hv (v := .ty T) (show RelV (.ty T) (.type T) from rfl) hn hdb) pa_nil hs2) hs1) (by decide) (by decide) hs1 hpl) fun σ H Q q => ?_
  obtain ⟨G, ρ, Qd, R, h, o⟩ := q
  refine ⟨G, ρ, _, R, h, fun d hd v G' H' S c r => ?_⟩
  obtain ⟨k, rr, hk, hkit, hq⟩ := hd
  exact ⟨v, .ty T, .type k, .type T, rr, rfl, .ty T, ty_of c r hk, kit_ty hkit, o _ hq _ G' H' S c rfl⟩
/-! ### x is True, x is False -/
def isBl (b : Bool) : D → Bool
  | .bl c => decide (c = b)
  | _ => false
theorem op_isBd (b : Bool) : OpR X (compareOp .Is) fun x y H Q => y = .bl b ∧ (∃ G d, Rp G x d ∧ notOpq d = true ∧ Q (.bl (isBl b d)) H) := by
  intro pins s σ H x y v u Q I rx ry h
  obtain ⟨rfl, G, d, r, n, q⟩ := h
  cases (show u = Value.bool b from ry)
  cases d with
  | opq => cases n
  | non =>
    cases (show x = .non from r); cases (show v = Value.none from rx)
    exact wpAny_is_other rfl (fun z => nomatch z) ⟨.bl false, H, I, rfl, q⟩
  | bl a =>
    cases (show x = .bl a from r); cases (show v = Value.bool a from rx)
    by_cases e : a = b
    · subst e
      exact wpAny_is_self rfl ⟨.bl true, H, I, rfl, by simpa [isBl] using q⟩
    · exact wpAny_is_other rfl (fun z => e (Value.bool.inj z)) ⟨.bl false, H, I, rfl, by simpa [isBl, e] using q⟩
  | int a =>
    cases (show x = .int a from r)
    obtain ⟨t, rfl⟩ := (show ∃ t, v = Value.int a t from rx)
    exact wpAny_is_other rfl (fun z => nomatch z) ⟨.bl false, H, I, rfl, q⟩
  | str a =>
    cases (show x = .str a from r)
    obtain ⟨t, rfl⟩ := (show ∃ t, v = Value.str a t from rx)
    exact wpAny_is_other rfl (fun z => nomatch z) ⟨.bl false, H, I, rfl, q⟩
  | tup xs =>
    obtain ⟨a, rfl, _⟩ := r
    cases (show v = Value.ref a from rx)
    exact wpAny_is_other rfl (fun z => nomatch z) ⟨.bl false, H, I, rfl, q⟩
  | lst xs =>
    obtain ⟨a, rfl, _⟩ := r
    cases (show v = Value.ref a from rx)
    exact wpAny_is_other rfl (fun z => nomatch z) ⟨.bl false, H, I, rfl, q⟩
  | deal =>
    obtain ⟨a, rfl, _⟩ := r
    cases (show v = Value.ref a from rx)
    exact wpAny_is_other rfl (fun z => nomatch z) ⟨.bl false, H, I, rfl, q⟩
  | scr a =>
    cases (show x = .ref a from r)
    cases (show v = Value.ref a from rx)
    exact wpAny_is_other rfl (fun z => nomatch z) ⟨.bl false, H, I, rfl, q⟩
  | cell => exact r.elim
def dIsB (b : Bool) (te : TEd) : TEd := fun ρ Q => te ρ fun d => notOpq d = true ∧ Q (.bl (isBl b d))
theorem pec_isB {k : Bool} {j' pos'} (ha : PEc X E a ta) (h1 : behindInMarks .Is (.Constant (.bool k) j' pos') = false := by rfl) : PEc X E (.Compare a [.Is] [.Constant (.bool k) j' pos'] pos) (dIsB k ta) := by
  refine PE.imp (pe_cmpR (op_isBd k) ha pe_bl h1) fun σ H Q q => ?_
  obtain ⟨G, ρ, Qd, R, h, o⟩ := q
  refine ⟨G, ρ, _, R, h, fun d hd v G' H' S c r => ?_⟩
  exact ⟨rfl, G', d, r, hd.1, o _ hd.2 _ G' H' S c rfl⟩
/-! ### a, b = a list -/
def gLs (gs : TGsd) (n : Nat) : TGd := fun x ρ Q => match x with
  | .lst xs => Nat.beq xs.length n = true ∧ gs xs ρ Q
  | _ => False
theorem pgc_lst {k : Nat} {gs : TGsd} {n : Nat} (hc : X.calm = true) (h : PGsc X E es gs) (hn : (assignEach es X.env).length = n := by rfl) (hst : (assignEach es X.env).findIdx? (·.1) = none := by rfl) : PGc X E (.Tuple es k pos) (gLs gs n) := by
  refine PG.imp (pg_unl hc h hn hst) fun v σ H Q q => ?_
  obtain ⟨G, ρ, x, Qd, R, r, h, o⟩ := q
  cases x with
  | lst xs =>
    obtain ⟨a, vs, rfl, g, hs, rr⟩ := R.cons.lst (K := X.K) r
    exact ⟨a, vs, rfl, hs, by rw [rr.length]; exact Nat.eq_of_beq_eq_true h.1, G, ρ, xs, Qd, R, rr, h.2, o⟩
  | _ => exact (show False from h).elim
/-! ### f(k = v, ..) -/
abbrev PKc (X : Cx) (E : Ent) (kws : List Keyword) (t : TAd) : Prop := PK X kws (liftA E t)
theorem pkc_nil : PKc X E [] dNil := ⟨fun _ pins s σ H Q I ⟨G, _, _, R, h, o⟩ => wpAny_evalAll_nil ⟨[], H, I, .nil, o _ h _ G H .refl R.cons .nil⟩⟩
theorem PK.imp {kws : List Keyword} {t t' : TA} (h : PK X kws t) (i : ∀ σ H Q, t' σ H Q → t σ H Q) : PK X kws t' := ⟨fun pos pins s σ H Q I q => h.run pos pins s σ H Q I (i σ H Q q)⟩
theorem pkc_cons {kws : List Keyword} {nm : Option Str} {kpos : Pos} (ha : PEc X E e te) (hr : PKc X E kws t) : PKc X E (⟨nm, e, kpos⟩ :: kws) (dCons te t) := by
  refine PK.imp (pk_cons ha hr) fun σ H Q q => ?_
  obtain ⟨G, ρ, Qd, R, h, o⟩ := q
  refine ⟨G, ρ, _, R, h, fun x hx v G1 H1 S1 c1 r1 => ⟨G1, ρ, _, R.go S1 c1, hx, fun xs hxs vs G2 H2 S2 c2 r2 => o _ hxs _ G2 H2 (S1.trans S2) c2 (.cons (r1.mono S2.g) r2)⟩⟩
theorem pe_callN0 {CX : CXT} {k : Nat} {f : Addr} {fd : FuncData} {ps ks : List Str} {sp : Sp} {E : XK} {kws : List Keyword} {tk : TA} {g : List Value → List Value → List Value} {gV : List V → List V → List V}
    (F : FnOk X.prog X.w X.K X.mg X.base CX k f fd ps sp) (hr : Room k X.A) (hg : Gl X x) (hm : X.mg x = some (.ref f)) (hk : PySem.W.keepIn X.K (.ref f) = true) (hb : KBn X.K fd ps 0 ks g gV) (hx : Passes CX X E)
    (hkw : PK X kws tk) (hall : (backToKw pos (keywordEach kws X.env)).all (·.1.isSome) = true := by rfl) (hks : (backToKw pos (keywordEach kws X.env)).filterMap (·.1) = ks := by rfl)
    (hdb : (x == ("__debug__" : Str)) = false := by decide) (hpl : ((backTo pos (starEach [] X.env)).any (·.1) || (backToKw pos (keywordEach kws X.env)).any (·.1.isNone)) = false := by rfl) :
    PE X (.Call (.Name x p) [] kws pos) (fun σ H Q => tk σ H fun zs H2 => zs.length = ks.length ∧ sp (gV [] zs) H2 Q E) := by
  refine ⟨fun pins s σ H Q I h => ?_⟩
  refine wpAny_Call_Name_kw (ld_glob I hg hm ?_ hdb)
  refine PySem.W.callWith_KW0 (h₀ := X.base) I.ok.mod.kin hk hall ?_ hpl
  refine thn (hkw.run pos pins s σ H _ I h) fun ws s2 ⟨zs, H2, I2, rz, l2, q2⟩ => ⟨I2.kIn, ?_⟩
  rw [hks]
  exact run_fnN (us := []) (vs := []) F hr hb hx I2 .nil rz rfl l2 q2
/-- a def called by keywords alone, the k-th parameter from the (perm k)-th keyword -/
def permL {α : Type} (perm : List Nat) (zs : List α) : List α := perm.filterMap (zs[·]?)
theorem rps_perm {G : Gh} {vs : List V} {xs : List D} (r : Rps G vs xs) : ∀ perm : List Nat, Rps G (permL perm vs) (permL perm xs)
  | [] => .nil
  | k :: ks => by
    have ih := rps_perm r ks
    unfold permL at ih ⊢
    rw [List.filterMap_cons, List.filterMap_cons]
    cases e : xs[k]? with
    | some x =>
      obtain ⟨v, ev, rv⟩ := r.get e
      rw [ev]
      exact .cons rv ih
    | none =>
      have : vs[k]? = none := by
        rw [List.getElem?_eq_none_iff] at e ⊢
        rw [r.length]; exact e
      rw [this]
      exact ih
theorem vals_perm {vs : List V} {xs : List Value} (r : Vals vs xs) : ∀ perm : List Nat, Vals (permL perm vs) (permL perm xs)
  | [] => .nil
  | k :: ks => by
    have ih := vals_perm r ks
    unfold permL at ih ⊢
    rw [List.filterMap_cons, List.filterMap_cons]
    cases e : vs[k]? with
    | some x =>
      obtain ⟨v, ev, rv⟩ := r.get e
      rw [ev]
      exact .cons rv ih
    | none =>
      have : xs[k]? = none := by
        rw [List.getElem?_eq_none_iff] at e ⊢
        rw [← r.length]; exact e
      rw [this]
      exact ih
def dCallP (spd : Spd) (perm : List Nat) (t : TAd) : TEd := fun ρ Q => t ρ fun ds => ds.length = perm.length ∧ spd (permL perm ds) Q
theorem pec_callK {k : Nat} {ps ks : List Str} {spd : Spd} {kws : List Keyword} {qual : Str} {params : Arguments} {body : List Stmt} {scope : Scope} {f : Addr} {fd : FuncData} (F : FnAt X.prog X.w X.K X.mg X.base k x ps spd) (hr : Room k X.A)
    (FD : FunD X.K x qual params body scope [] [] f fd) (hmf : X.mg x = some (.ref f)) (perm : List Nat) (hpl0 : perm.length = ks.length)
    (hbind : ∀ (kV doc pm : Value) (an : Option Addr) (cdv ct : Value) (ws : List Value), ws.length = ks.length → bindArgs (PySem.W.fnOf x qual params body scope .none kV doc pm an cdv ct) ⟨[], ks.zip ws⟩ = pure (ps.zip (permL perm ws)))
    (hkw : PKc X E kws t) (hg : Gl X x := by rfl) (hdb : (x == ("__debug__" : Str)) = false := by decide)
    (hall : (backToKw pos (keywordEach kws X.env)).all (·.1.isSome) = true := by rfl) (hks : (backToKw pos (keywordEach kws X.env)).filterMap (·.1) = ks := by rfl)
    (hpl : ((backTo pos (starEach [] X.env)).any (·.1) || (backToKw pos (keywordEach kws X.env)).any (·.1.isNone)) = false := by rfl) : PEc X E (.Call (.Name x p) [] kws pos) (dCallP spd perm t) := by
  obtain ⟨f', fd', hm, hk, hb, ⟨oc, od, osl, hl⟩, F'⟩ := F.ex
  obtain rfl : f' = f := by rw [hmf] at hm; cases hm; rfl
  obtain ⟨oc2, od2, osl2, hl2⟩ := FD.look
  obtain rfl : fd' = fd := by rw [hl] at hl2; cases hl2; rfl
  have kb : KBn X.K fd' ps 0 ks (fun _ ws => permL perm ws) (fun _ zs => permL perm zs) := by
    obtain ⟨_, _, dV, kV, doc, pm, an, cdv, ct, _, rfl, _, _, hD, _⟩ := FD.ex
    rcases hD with ⟨_, rfl⟩ | ⟨e, _⟩
    · refine ⟨fun s us ws _ l1 l2 => ?_, fun _ r2 => vals_perm r2 perm⟩
      have : us = [] := by cases us with | nil => rfl | cons _ _ => cases l1
      subst this
      exact .of_eq (hbind kV doc pm an cdv ct ws l2)
    · exact absurd rfl e
  refine PE.imp (pe_callN0 (E := fun _ _ _ => False) F' hr hg hm hk kb (fun _ _ _ _ _ _ _ h => h.elim) hkw hall hks hdb hpl) fun σ H Q q => ?_
  obtain ⟨G, ρ, Qd, R, h, o⟩ := q
  refine ⟨G, ρ, _, R, h, fun ds hds vs G1 H1 S1 c1 r1 => ⟨by rw [r1.length, hds.1]; exact hpl0, ?_⟩⟩
  have r2 := rps_perm r1 perm
  exact ⟨by rw [r2.length]; exact F.len _ _ hds.2, G1, _, Qd, c1, r2, hds.2, fun d hd w G3 H3 S3 c3 r3 => o d hd w G3 H3 (S1.trans S3) c3 r3⟩
/-! ### a dict of the def's own: keys rows of ints, values ints -/
def dV (kvs : List (List Int × Int)) : List (List L2.Key × V) := kvs.map fun p => (p.1.map Sum.inl, V.int p.2)
def kget : List (List Int × Int) → List Int → Option Int
  | [], _ => none
  | (k, v) :: r, q => if k = q then some v else kget r q
def kput : List (List Int × Int) → List Int → Int → List (List Int × Int)
  | [], q, v => [(q, v)]
  | (k, w) :: r, q, v => if k = q then (k, v) :: r else (k, w) :: kput r q v
theorem key_map {ks : List Int} {b : Addr} {H : Hp} (h : H b = some (.tup (ks.map V.int))) : H b = some (.tup ((ks.map (Sum.inl : Int → L2.Key)).map kV)) := by
  rw [h, List.map_map]; rfl
theorem inl_inj {a b : List Int} (h : a.map (Sum.inl : Int → L2.Key) = b.map Sum.inl) : a = b := by
  induction a generalizing b with
  | nil => cases b with | nil => rfl | cons _ _ => cases h
  | cons x r ih =>
    cases b with
    | nil => cases h
    | cons y s =>
      rw [List.map_cons, List.map_cons] at h
      injection h with h1 h2
      injection h1 with h1
      rw [h1, ih h2]
end
end Cc
set_option Elab.async false
set_option linter.all false
set_option maxRecDepth 100000
set_option maxHeartbeats 2000000
/-! LayG: dicts of a def's own; the last of a list of the def's own; loops by enumerate over a tuple; try without a raise. -/
namespace Cc
open PySem PySem.Spec PyProof.Rows L2
section
variable {X : Cx} {E : Ent} {e a b c : Expr} {es : List Expr} {ta tb tc te : TEd} {tA tB : TTd} {t tr : TAd} {pos p : Pos} {ts us : TSd} {i j l : Nat} {x y z : Str}
theorem dV_get : ∀ (kvs : List (List Int × Int)) (q : List Int), valV (dV kvs) (q.map Sum.inl) = (kget kvs q).map V.int
  | [], q => rfl
  | (k, v) :: r, q => by
    have ih := dV_get r q
    by_cases e : k = q
    · subst e
      rw [show dV ((k, v) :: r) = (k.map Sum.inl, V.int v) :: dV r from rfl, valV_pos rfl]
      simp [kget]
    · rw [show dV ((k, v) :: r) = (k.map Sum.inl, V.int v) :: dV r from rfl, valV_neg (fun z => e (inl_inj z)), ih]
      simp [kget, e]
theorem dV_put (kvs : List (List Int × Int)) (q : List Int) (v : Int) (h : kget kvs q = none) : putK (dV kvs) (q.map Sum.inl) (.int v) = dV (kvs ++ [(q, v)]) := by
  have e : (dV kvs).any (fun kv => decide (kv.1 = q.map Sum.inl)) = false := by
    have := valV_any (q.map Sum.inl) (dV kvs)
    rw [dV_get, h] at this
    simpa using this
  unfold putK
  rw [e]
  simp [dV]
def asDic (Q : List (List Int × Int) → Prop) : Sl → Prop
  | .dic xs => Q xs
  | _ => False
def asRow (Q : List Int → Prop) : D → Prop
  | .tup xs => ∃ ns, asInts xs = some ns ∧ Q ns
  | _ => False
theorem asRow_of {G : Gh} {H : Hp} (c : Cons G H) {v : V} {d : D} (r : Rp G v d) {Q : List Int → Prop} (h : asRow Q d) : ∃ a ns, v = .ref a ∧ H a = some (.tup ((ns.map (Sum.inl : Int → L2.Key)).map kV)) ∧ Q ns := by
  cases d with
  | tup xs =>
    obtain ⟨ns, e, q⟩ := h
    rw [asInts_map e] at r
    obtain ⟨a, rfl, g⟩ := r
    obtain ⟨vs, hv, rr⟩ := c a _ g
    rw [rr.of_ints] at hv
    exact ⟨a, ns, rfl, key_map hv, q⟩
  | _ => exact (show False from h).elim
/-- k in d -/
def dDIn (i : Nat) (te : TEd) : TEd := fun ρ Q => te ρ (asRow fun ns => asDic (fun kvs => Q (.bl (kget kvs ns).isSome)) (gt ρ i))
theorem pec_din (hu : X.A.units + 1 < cLine) (he : PEc X E e te) (hi : X.N[i]? = some y := by rfl) (hv : Vis X.env.scope y := by first | exact .inl rfl | exact .inr (.inl rfl) | exact .inr (.inr rfl)) (hd : (y == ("__debug__" : Str)) = false := by decide) (hcd : (y == ("__classdict__" : Str)) = false := by decide) (h1 : behindInMarks .In (.Name y p) = false := by rfl) :
    PEc X E (.Compare e [.In] [.Name y p] pos) (dDIn i te) := by
  refine PE.imp (pe_cmp (pc_din hu he (pe_var hi hv hd hcd)) h1) fun σ H Q q => ?_
  obtain ⟨G, ρ, Qd, R, h, o⟩ := q
  refine ⟨G, ρ, _, R, h, fun d hd v G' H' S c r => ?_⟩
  obtain ⟨b, ns, rfl, hb, q⟩ := asRow_of c r hd
  have s := (R.go S c).slot i
  cases z : gt ρ i with
  | dic kvs =>
    rw [z] at q s
    obtain ⟨a, ea, ha, g, eh⟩ := s
    refine ⟨_, gv_some ea, a, _, rfl, .t (kvs := dV kvs) ha hb, ?_⟩
    rw [dV_get, Option.isSome_map]
    exact o _ q _ G' H' S c rfl
  | _ => rw [z] at q; exact (show False from q).elim
/-- d[k] -/
def isDic : Sl → Bool
  | .dic _ => true
  | _ => false
def dDGet (i : Nat) (te : TEd) : TEd := fun ρ Q => isDic (gt ρ i) = true ∧ te ρ (asRow fun ns => asDic (fun kvs => ∃ v, kget kvs ns = some v ∧ Q (.int v)) (gt ρ i))
theorem pec_dget (hu : X.A.units + 1 < cLine) (he : PEc X E e te) (hs : NoSl e) (hi : X.N[i]? = some y := by rfl) (hv : Vis X.env.scope y := by first | exact .inl rfl | exact .inr (.inl rfl) | exact .inr (.inr rfl)) (hd : (y == ("__debug__" : Str)) = false := by decide) (hcd : (y == ("__classdict__" : Str)) = false := by decide) :
    PEc X E (.Subscript (.Name y p) e pos) (dDGet i te) := by
  refine PE.imp (pe_dget hu (pe_var hi hv hd hcd) he hs) fun σ H Q q => ?_
  obtain ⟨G, ρ, Qd, R, h, o⟩ := q
  have s0 := R.slot i
  cases z : gt ρ i with
  | dic kvs =>
    rw [z] at s0
    obtain ⟨a, ea, ha0, _, _⟩ := s0
    refine ⟨_, gv_some ea, G, ρ, _, R, h.2, fun d hd v G' H' S c r => ?_⟩
    obtain ⟨b, ns, rfl, hb, q⟩ := asRow_of c r hd
    have s := (R.go S c).slot i
    rw [z] at q s
    obtain ⟨a', ea', ha, g, eh⟩ := s
    rw [ea] at ea'; cases ea'
    obtain ⟨v, hv, q⟩ := q
    refine ⟨a, .int v, rfl, ?_, o _ q _ G' H' S c rfl⟩
    have e := dV_get kvs ns
    rw [hv] at e
    have := DGet.t (kvs := dV kvs) ha hb
    rw [e] at this
    exact this
  | _ => have h1 := h.1; rw [z] at h1; cases h1
/-- d[k] = v -/
def dDPut (i : Nat) (tk te : TEd) : TSd := fun D ρ => isDic (gt ρ i) = true ∧ te ρ fun d => match d with
  | .int v => tk ρ (asRow fun ns => asDic (fun kvs => kvs.length < 1000000 ∧ kget kvs ns = none ∧ D.nx (st ρ i (.dic (kvs ++ [(ns, v)])))) (gt ρ i))
  | _ => False
theorem psc_dput {e2 : Expr} {tk : TEd} {pos' : Pos} (hu : X.A.units + 1 < cLine) (he : PEc X E e te) (hk : PEc X E e2 tk) (hi : X.N[i]? = some y := by rfl) (hv : Vis X.env.scope y := by first | exact .inl rfl | exact .inr (.inl rfl) | exact .inr (.inr rfl)) (hd : (y == ("__debug__" : Str)) = false := by decide) (hcd : (y == ("__classdict__" : Str)) = false := by decide)
    (hs : swapsWith e (some (.Subscript (.Name y p) e2 pos')) pos.line X.env = pure false := by rfl) : PSc X E (.Assign [.Subscript (.Name y p) e2 pos'] e pos) (dDPut i tk te) := by
  refine PS.imp (ps_dput hu (pe_var hi hv hd hcd) hk he hs) fun D σ H q => ?_
  obtain ⟨G, ρ, d, R, h, o⟩ := q
  refine ⟨G, ρ, _, R, h.2, fun d1 hd1 v G1 H1 S1 c1 r1 => ?_⟩
  cases d1 with
  | int n =>
    cases (show v = .int n from r1)
    have R1 := R.go S1 c1
    have s0 := R1.slot i
    cases z : gt ρ i with
    | dic kvs =>
      rw [z] at s0
      obtain ⟨a, ea, ha0, _, _⟩ := s0
      refine ⟨_, gv_some ea, G1, ρ, _, R1, hd1, fun d2 hd2 v2 G2 H2 S2 c2 r2 => ?_⟩
      obtain ⟨b, ns, rfl, hb, q⟩ := asRow_of c2 r2 hd2
      have R2 := R1.go S2 c2
      have s := R2.slot i
      rw [z] at q s
      obtain ⟨a', ea', ha, g, eh⟩ := s
      rw [ea] at ea'; cases ea'
      obtain ⟨hl, hn, q⟩ := q
      refine ⟨a, _, rfl, .t (kvs := dV kvs) ha hb (by rw [sizeLine_eq]; show (kvs.map _).length < _; rw [List.length_map]; omega), ?_⟩
      rw [dV_put kvs ns n hn]
      exact o.nx _ q G2 σ _ (S1.trans S2).g (R2.dic z ea)
    | _ => have h1 := h.1; rw [z] at h1; cases h1
  | _ => exact (show False from hd1).elim
end
end Cc
set_option Elab.async false
set_option linter.all false
set_option maxRecDepth 100000
set_option maxHeartbeats 2000000
/-! LayH: enumerate over a tuple. -/
namespace PySem
open PyProof.Rows
theorem enum1_new {v : Value} {o : Obj} {H : Heap → Prop} (B : Begins v o H) :
    Meets (Builtin.«enumerate.__new__» ⟨[.type "enumerate", v], []⟩) (fun _ R s => H s.heap ∧
      R (.ok (.ret (.ref (s.heap.push o).objs.size))) { s with heap := (s.heap.push o).push { cls := .type "enumerate", data := .fields #[.none, .bool false, .ref s.heap.objs.size, rawInt 0, .none, .none] } }) :=
  .of_wp fun prog w A R s h => by
    obtain ⟨hp, g, d, tk, os⟩ := s
    obtain ⟨h1, h⟩ := h
    have hsub := sub_enumerate
    have start : ∀ {A' : Around} {E : Value → Shared → Prop} {Q : Value → Shared → Prop}, Q (.ref hp.objs.size) ⟨hp.push o, g, d, tk, os⟩ → wpAny (model prog w) A' (pyIter v) Q E ⟨hp, g, d, tk, os⟩ :=
      fun q => B.iter prog w _ _ ⟨hp, g, d, tk, os⟩ _ h1 q
    wp_walk using start
    refine wpAny_stack_any fun st => wpAny_pure ?_
    split
    · rename_i c _ _ _ _ _
      cases (c == Value.type "enumerate") <;> (wp_walk using start; exact ⟨_, rfl, h⟩)
    · wp_walk using start
      exact ⟨_, rfl, h⟩
theorem enum1_begins {prog : Program} {w : World} {A : Around} {E : Value → Shared → Prop} {s : Shared} {v : Value} {o : Obj} {H : Heap → Prop} {Q : Value → Shared → Prop} (B : Begins v o H) (h1 : H s.heap)
    (h : ∀ h', IsEnum h' (s.heap.objs.size + 1) s.heap.objs.size 0 .none → h'.get? s.heap.objs.size = some o → (∀ b o, s.heap.get? b = some o → h'.get? b = some o) → Q (.ref (s.heap.objs.size + 1)) { s with heap := h' }) :
    wpAny (model prog w) A (call (.type "enumerate") [v]) Q E s := by
  refine callType_new F.called_enumerate (by decide) (F.typeCall_enumerate_1 _) (F.newCall_enumerate_1 _) (fun obj => F.args_object_init_2 obj _) F.entry_enumerate_new (enum1_new B) ⟨h1, ?_⟩
  have hz : (s.heap.push o).objs.size = s.heap.objs.size + 1 := Heap.size_push ..
  show _ ∧ _
  rw [hz]
  have he : IsEnum ((s.heap.push o).push { cls := .type "enumerate", data := .fields #[.none, .bool false, .ref s.heap.objs.size, rawInt 0, .none, .none] }) (s.heap.objs.size + 1) s.heap.objs.size 0 .none := by
    rw [← hz]; exact Heap.get?_push_size _ rfl
  exact ⟨⟨_, he, rfl⟩, h _ he (Heap.get?_push_of_some _ (Heap.get?_push_size _ B.free)) fun b o x => Heap.get?_push_of_some _ (Heap.get?_push_of_some _ x)⟩
end PySem
namespace L2
open PySem PySem.Spec PyProof.Rows
def IteT (K : PySem.W.Frag) (a : Addr) : It :=
  ⟨fun i H => ∃ (xs : List V) (x : V), SqT K H a xs ∧ xs[i]? = some x, fun i H v H' => ∃ T x, v = .ref T ∧ H T = none ∧ H' = upd H T (.tup [.int (i : Nat), x]) ∧ ∀ xs, SqT K H a xs → xs[i]? = some x, fun i H => ∃ xs : List V, SqT K H a xs ∧ xs.length ≤ i⟩
theorem turn_enumT {P : Program} {w : World} {K : PySem.W.Frag} {elts : List Expr} {kk : Nat} {tpos : Pos} (a e it : Addr) :
    Turn P w K (.Tuple elts kk tpos) (IteT K a) [e, it] e (fun i h => (∃ old, IsEnum h e it ((i : Nat) : Int) old) ∧ h.IsTupleIter it a i ∧ e ≠ it ∧ e ≠ a ∧ a ≠ it) where
  mem := by simp
  obj := fun i h st b hb => by
    obtain ⟨⟨old, he⟩, ⟨o, ho, hc, hd⟩, _⟩ := st
    rcases (show b = e ∨ b = it by simpa using hb) with z | z
    · subst z; exact ⟨_, he, fun v q => nomatch q⟩
    · subst z; exact ⟨o, ho, fun v q => by rw [hd] at q; cases q⟩
  keep := fun i h h' st k => let ⟨⟨old, he⟩, hi, hne⟩ := st; ⟨⟨old, k e (by simp) _ he⟩, hi.at fun o q => k it (by simp) o q, hne⟩
  item := by
    intro X hP hw hK hc i pins s σ H E I hf st hg
    subst hP hw hK
    obtain ⟨⟨old, he⟩, hit, hne, hea, hai⟩ := st
    obtain ⟨xs, x, hq, hx⟩ := hg
    obtain ⟨its, rv, p, hz⟩ := I.tuple hq
    obtain ⟨u, hu, ru⟩ := rv.get hx
    have hel : e < s.heap.objs.size := Heap.lt_size he
    have hil : it < s.heap.objs.size := by obtain ⟨_, q, _⟩ := hit; exact Heap.lt_size q
    have pt : s.heap.IsTuple a its.toArray := p
    have hlt : i < its.toArray.size := by rw [List.size_toArray]; exact (List.getElem?_eq_some_iff.mp hu).1
    refine wpAny_pyNext_enum_itemD (Draws.tuple (A := X.A.in1) (I.ok.hd hc) it a hai its.toArray) he ⟨hit, pt⟩ hlt hne (by simp [hne, hea]) fun y h' tk hy ho hst hT hsz hk => ?_
    have hit' := hst.1
    have ey : y = u := by
      have : its[i]? = some y := by simpa using hy
      rw [hu] at this; exact (Option.some.inj this).symm
    subst ey
    refine ⟨_, rfl, wpAny_letOwnedTupleGo_enum (s := { s with heap := h', toks := tk + 1 }) ho fun h'' he' sb => ?_⟩
    have hT2 : h''.get? s.heap.objs.size = some { cls := .type "tuple", data := .seq #[.int i tk, y] } := (sb.2 _ (Nat.ne_of_gt hel)).trans hT
    have new : ObjOk X.prog X.w (upd H s.heap.objs.size (.tup [.int (i : Nat), x])) h'' s.heap.objs.size (.tup [.int (i : Nat), x]) :=
      ⟨by show 2 ≤ sizeLine; decide, [.int i tk, y], .cons ⟨_, rfl⟩ (.cons ru .nil), ⟨_, hT2, rfl, _, rfl⟩⟩
    have I1 : Inv X pins σ (upd H s.heap.objs.size (.tup [.int (i : Nat), x])) { s with heap := h'', toks := tk + 1 } :=
      I.turnedNew (ch := [e, it]) (fun b ob hb q => (sb.2 b (fun z => hb (by simp [z]))).trans (hk b ob (fun z => hb (by simp [z])) (fun z => hb (by simp [z])) q)) hf (Nat.le_refl _) new
    refine ⟨.ref s.heap.objs.size, _, I1, rfl, ⟨_, x, rfl, I.hok.fresh (Nat.le_refl _), rfl, fun ys hy => by rw [I.tuple_inj hy hq]; exact hx⟩, ⟨⟨y, ?_⟩, hit'.at fun o q => (sb.2 it (Ne.symm hne)).trans q, hne, hea, hai⟩, fun b hb => ?_⟩
    · rw [show ((i + 1 : Nat) : Int) = (i : Int) + 1 by omega]; exact he'
    · have hb' : b < s.heap.objs.size := by
        rcases (show b = e ∨ b = it by simpa using hb) with z | z
        · subst z; exact hel
        · subst z; exact hil
      rw [upd_ne (Nat.ne_of_lt hb')]
      exact (hf b hb).1
  done := by
    intro X hP hw hK hc i pins s σ H E I hf st hg
    subst hP hw hK
    obtain ⟨⟨old, he⟩, hit, hne, hea, hai⟩ := st
    obtain ⟨xs, hq, hx⟩ := hg
    obtain ⟨its, rv, p, hz⟩ := I.tuple hq
    obtain ⟨f0, f1, f2, f3, f4, f5⟩ := hf it (by simp)
    have hl := rv.length
    have D' : Draws X.prog X.w X.A.in1 it [it, a] i (fun _ _ => True) (fun j h => j = i ∧ h.IsTupleIter it a i ∧ h.IsTuple a its.toArray) :=
      { live := fun _ _ st => let ⟨o, ho, _⟩ := st.2.1; ⟨o, ho⟩
        frame := fun _ _ _ st hk => ⟨st.1, st.2.1.at fun o e => hk it (by simp) o e, st.2.2.at fun o e => hk a (by simp) o e⟩
        item := fun j s Q E hi st hQ => by have := st.1; omega
        done := fun s Q E st hE => wpAny_nextOf_tuple_end (I.ok.hd hc) st.2.1 st.2.2 (by simp; omega) hE }
    exact wpAny_pyNext_enum_endD D' he ⟨rfl, hit, p⟩ fun h' eb => ⟨rfl, I.turned (t' := s.toks) (fun b o hb q => eb b o hb q) f0 f1 f3 f4 f5⟩
  self := fun A i s Q E st h => let ⟨⟨_, he⟩, _⟩ := st; wpAny_pyIter_enum he h
def iEnumT (K : PySem.W.Frag) (ta : TA) : TI := fun σ H R => ta σ H fun vs H1 => ∃ a xs, vs = [.ref a] ∧ SqT K H1 a xs ∧ R (IteT K a) H1
theorem pi_enumT {X : Cx} {e : Expr} {ta : TA} {p pos tpos : Pos} {elts : List Expr} {kk : Nat} (hg : Gl X "enumerate") (hm : X.mg "enumerate" = none) (ha : PA X [e] ta) (hs : starEach [e] X.env = [(false, eval e X.env)] := by rfl) :
    PI X (.Tuple elts kk tpos) (.Call (.Name "enumerate" p) [e] [] pos) (iEnumT X.K ta) := by
  refine ⟨fun pins s σ H R I h => ?_⟩
  refine Call_ (ld_blt I hg hm boot_enumerate (PyProof.Rows.callWith_type1 (thn (ha.run pos pins s σ H _ I h) fun us s1 ⟨vs, H1, I1, r1, q1⟩ => ?_) hs rfl))
  obtain ⟨a, xs, ex, hq, q⟩ := q1
  subst ex
  cases r1 with
  | cons r rr =>
    cases rr
    cases r
    obtain ⟨its, rv, p', hz⟩ := I1.tuple hq
    have pt : s1.heap.IsTuple a its.toArray := p'
    have hal : a < s1.heap.objs.size := by obtain ⟨_, q, _⟩ := pt; exact Heap.lt_size q
    refine enum1_begins (begins_tuple a its.toArray) pt fun h' he hit hk => wpAny_pyIter_enum he ?_
    have I2 : Inv X pins σ H1 { s1 with heap := h' } := I1.kept (t' := s1.toks) hk
    refine ⟨s1.heap.objs.size + 1, [s1.heap.objs.size + 1, s1.heap.objs.size], _, _, H1, rfl, I2, turn_enumT a (s1.heap.objs.size + 1) s1.heap.objs.size, ⟨⟨.none, he⟩, ⟨_, hit, rfl, rfl⟩, Nat.succ_ne_self _, Ne.symm (Nat.ne_of_lt (Nat.lt_succ_of_lt hal)), Nat.ne_of_lt hal⟩, fun b hb => ?_, q⟩
    have hle : s1.heap.objs.size ≤ b := by
      rcases (show b = s1.heap.objs.size + 1 ∨ b = s1.heap.objs.size by simpa using hb) with z | z
      · rw [z]; exact Nat.le_succ _
      · rw [z]; exact Nat.le_refl _
    exact I1.fpOk hle (I1.hok.fresh hle)
end L2
namespace Cc
open PySem PySem.Spec PyProof.Rows L2
section
variable {X : Cx} {E : Ent} {e a b c : Expr} {es : List Expr} {ta tb tc te : TEd} {t : TAd} {pos p : Pos} {ts us : TSd}
/-- for a, b in enumerate(tuple) -/
def loopEnum (xs : List D) (g : TGd) (tb : TSd) (D : Es) (ρ : En) : Prop := ∃ Pv : Nat → En → Prop, Pv 0 ρ ∧ (∀ i x ρ, xs[i]? = some x → Pv i ρ → g (.tup [.int (i : Nat), x]) ρ fun ρ2 => tb { nx := Pv (i + 1), ct := Pv (i + 1), bk := D.nx, rt := D.rt } ρ2) ∧ ∀ ρ, Pv xs.length ρ → D.nx ρ
def dForE (t : TAd) (g : TGd) (tb : TSd) : TSd := fun D ρ => t ρ fun ds => match ds with
  | [.tup xs] => loopEnum xs g tb D ρ
  | _ => False
theorem psc_forE {kk : Nat} {tpos cpos : Pos} {elts : List Expr} {body : List Stmt} {g : TGd} (hp : PassesOwn (model X.prog X.w) X.A X.env X.xe) (hc : X.calm = true) (hm : X.mg "enumerate" = none) (ha : PAc X E [e] t) (hg : PGc X E (.Tuple elts kk tpos) g) (hb : PSsc X E body ts)
    (hgl : Gl X "enumerate" := by rfl) (hst : starEach [e] X.env = [(false, eval e X.env)] := by rfl) (hs : ∀ x, foldedSetIterable (.Call (.Name "enumerate" p) [e] [] cpos) X.env x = pure x := by intro _; rfl) : PSc X E (.For (.Tuple elts kk tpos) (.Call (.Name "enumerate" p) [e] [] cpos) body [] pos) (dForE t g ts) := by
  refine PS.imp (ps_for hp hc (pi_enumT hgl hm ha hst) hg hb hs) fun D σ H q => ?_
  obtain ⟨G, ρ, d, R, h, o⟩ := q
  refine ⟨G, ρ, _, R, h, fun ds hds vs G1 H1 S1 c1 r1 => ?_⟩
  cases r1 with
  | nil => exact (show False from hds).elim
  | @cons v d1 vs' ds' r r' =>
    cases d1 with
    | tup xs =>
      cases r' with
      | nil =>
        obtain ⟨Pv, p0, hturn, hd⟩ := hds
        obtain ⟨a, vs, rfl, ga, hs, rr⟩ := c1.tup (K := X.K) r
        refine ⟨a, vs, rfl, hs, ?_⟩
        refine ⟨fun i m σ H => m = xs.length - i ∧ i ≤ xs.length ∧ ∃ G' ρ, GSub G1 G' ∧ Rel E G' ρ σ H ∧ Pv i ρ, ⟨_, rfl, Nat.zero_le _, G1, ρ, fun _ _ e => e, R.go S1 c1, p0⟩, ?_⟩
        rintro i m σ2 H2 ⟨rfl, hi, G2, ρ2, g2, R2, p2⟩
        obtain ⟨vs2, h2, r2⟩ := R2.cons a _ (g2 a _ ga)
        have hs2 : SqT X.K H2 a vs2 := SqT.of h2
        by_cases hlt : i < xs.length
        · obtain ⟨w, ew, rw'⟩ := r2.get (List.getElem?_eq_getElem hlt)
          refine .inr ⟨⟨vs2, w, hs2, ew⟩, fun σ' H' => ∃ G' ρ, GSub G1 G' ∧ Rel E G' ρ σ' H' ∧ Pv (i + 1) ρ, fun σ' H' z => ⟨_, by omega, rfl, hlt, z⟩, fun x H' y => ?_⟩
          obtain ⟨T, x', rfl, nT, rfl, hx'⟩ := y
          have e2 : w = x' := Option.some.inj (ew.symm.trans (hx' vs2 hs2))
          subst e2
          obtain ⟨St, ct, rt⟩ := new_tup (xs := [.int (i : Nat), xs[i]]) R2.cons nT (.cons rfl (.cons rw' .nil))
          refine ⟨_, ρ2, _, _, R2.go St ct, rt, hturn i _ ρ2 (List.getElem?_eq_getElem hlt) p2, fun ρ' h' G3 σ3 H3 S3 R3 => ?_⟩
          have gg : ∀ {G'}, GSub G3 G' → GSub G1 G' := fun g a d e => g a d (S3.g a d (St.g a d (g2 a d e)))
          exact ⟨G3, ρ', _, R3, h', ⟨fun ρ4 h4 G4 σ4 H4 g4 R4 => ⟨G4, ρ4, gg g4, R4, h4⟩, o.rt, fun ρ4 h4 G4 σ4 H4 g4 R4 => o.nx ρ4 h4 G4 σ4 H4 (fun a d e => gg g4 a d (S1.g a d e)) R4, fun ρ4 h4 G4 σ4 H4 g4 R4 => ⟨G4, ρ4, gg g4, R4, h4⟩⟩⟩
        · have ei : i = xs.length := by omega
          subst ei
          exact .inl ⟨⟨vs2, hs2, by rw [r2.length]; exact Nat.le_refl _⟩, o.nx ρ2 (hd ρ2 p2) G2 σ2 H2 (fun a d e => g2 a d (S1.g a d e)) R2⟩
      | cons _ _ => exact (show False from hds).elim
    | _ => cases r' <;> exact (show False from hds).elim
/-- try: .. where nothing is raised -/
theorem psc_try {body : List Stmt} {h0 : ExceptHandler} {hs : List ExceptHandler} (hb : PSsc X.nox E body ts) : PSc X E (.Try body (h0 :: hs) [] [] pos) ts := ps_try_thru0 hb
end
end Cc
set_option Elab.async false
set_option linter.all false
set_option maxRecDepth 100000
set_option maxHeartbeats 2000000
/-! LayI: comparisons as tests. -/
namespace Cc
open PySem PySem.Spec PyProof.Rows L2
section
variable {X : Cx} {E : Ent} {e a b c : Expr} {es : List Expr} {ta tb tc te : TEd} {tA tB : TTd} {t : TAd} {pos p : Pos} {i : Nat} {y : Str}
theorem test_lift {t : TEd} {σ : L2.St} {H : Hp} {Q : Bool → Hp → Prop} (h : liftT E (dB t) σ H Q) : liftE E t σ H (fun x H' => ∃ k, x = .bl k ∧ Q k H') := by
  obtain ⟨G, ρ, Qd, R, h, o⟩ := h
  refine ⟨G, ρ, asB Qd, R, h, fun d hd v G' H' S c r => ?_⟩
  cases d with
  | bl b => exact ⟨b, r, o b hd G' H' S c⟩
  | _ => exact (show False from hd).elim
theorem pte_op {op : CmpOp} {r : R2} {rd : R2d} (ho : OpR X (compareOp op) r) (f : Fit2 r rd) (ha : PEc X E a ta) (hb : PEc X E b tb) (hm : behindInMarks op b = false := by first | exact nobehind _ (by decide) (by decide) | rfl) : PTc X E (.Compare a [op] [b] pos) (dB (dOp rd ta tb)) :=
  PT.imp (pt_cmpR ho ha hb hm) fun _ _ _ h => lift2 f (test_lift h)
theorem pte_lt (ha : PEc X E a ta) (hb : PEc X E b tb) : PTc X E (.Compare a [.Lt] [b] pos) (dB (dOp (II0 fun i j => .bl (decide (i < j))) ta tb)) := pte_op op_lt (fitI0 fun _ _ _ => rfl) ha hb
theorem pte_le (ha : PEc X E a ta) (hb : PEc X E b tb) : PTc X E (.Compare a [.LtE] [b] pos) (dB (dOp (II0 fun i j => .bl (decide (i ≤ j))) ta tb)) := pte_op op_le (fitI0 fun _ _ _ => rfl) ha hb
theorem pte_gt (ha : PEc X E a ta) (hb : PEc X E b tb) : PTc X E (.Compare a [.Gt] [b] pos) (dB (dOp (II0 fun i j => .bl (decide (j < i))) ta tb)) := pte_op op_gt (fitI0 fun _ _ _ => rfl) ha hb
theorem pte_ge (ha : PEc X E a ta) (hb : PEc X E b tb) : PTc X E (.Compare a [.GtE] [b] pos) (dB (dOp (II0 fun i j => .bl (decide (j ≤ i))) ta tb)) := pte_op op_ge (fitI0 fun _ _ _ => rfl) ha hb
theorem pte_eq (hu : X.A.units + 64 < cLine) (ha : PEc X E a ta) (hb : PEc X E b tb) : PTc X E (.Compare a [.Eq] [b] pos) (dB (dOp (EqD id) ta tb)) := pte_op (OpR.or op_eq (op_eqD hu)) (fitEq (f := id)) ha hb
theorem pte_ne (hu : X.A.units + 64 < cLine) (ha : PEc X E a ta) (hb : PEc X E b tb) : PTc X E (.Compare a [.NotEq] [b] pos) (dB (dOp (EqD not) ta tb)) := pte_op (OpR.or op_ne (op_neD hu)) (fitEq (f := not)) ha hb
theorem pte_notInI (ha : PEc X E a ta) (hb : PEc X E b tb) (hm : behindInMarks .NotIn b = false := by first | exact nobehind _ (by decide) (by decide) | rfl) : PTc X E (.Compare a [.NotIn] [b] pos) (dB (dOp NotInI ta tb)) := by
  refine pte_op op_notIn_seq ?_ ha hb hm
  intro G H x y a b Qd Q c rx ry h o
  cases a with
  | int n =>
    cases b with
    | tup xs =>
      cases (show x = .int n from rx)
      obtain ⟨ns, e, q⟩ := h
      rw [asInts_map e] at ry
      obtain ⟨p, vs, rfl, g, hs, rr⟩ := c.tup (K := X.K) ry
      rw [rr.of_ints] at hs
      refine ⟨p, _, rfl, .inr hs, rfl, flat_ints ns, ?_⟩
      rw [inV_ints]
      exact o _ q _ G H .refl c rfl
    | _ => exact (show False from h).elim
  | _ => exact (show False from h).elim
theorem pte_isN {j pos'} (ha : PEc X E a ta) (h1 : behindInMarks .Is (.Constant .none j pos') = false := by rfl) : PTc X E (.Compare a [.Is] [.Constant .none j pos'] pos) (dB (dIsN ta)) := by
  refine PT.imp (pt_cmp (pc_isN ha) h1) fun σ H Q q => ?_
  obtain ⟨G, ρ, Qd, R, h, o⟩ := test_lift q
  refine ⟨G, ρ, _, R, h, fun x hx v G1 H1 S1 c1 r1 => ?_⟩
  show ∃ c, V.bl (decide (v = .non)) = .bl c ∧ Q c H1
  rw [r1.isNon hx.1]
  exact o _ hx.2 _ G1 H1 S1 c1 rfl
theorem pte_notN {j pos'} (ha : PEc X E a ta) (h1 : behindInMarks .IsNot (.Constant .none j pos') = false := by rfl) : PTc X E (.Compare a [.IsNot] [.Constant .none j pos'] pos) (dB (dNotN ta)) := by
  refine PT.imp (pt_cmp (pc_notN ha) h1) fun σ H Q q => ?_
  obtain ⟨G, ρ, Qd, R, h, o⟩ := test_lift q
  refine ⟨G, ρ, _, R, h, fun x hx v G1 H1 S1 c1 r1 => ?_⟩
  show ∃ c, V.bl (!decide (v = .non)) = .bl c ∧ Q c H1
  rw [r1.isNon hx.1]
  exact o _ hx.2 _ G1 H1 S1 c1 rfl
theorem pte_isB {k : Bool} {j' pos'} (ha : PEc X E a ta) (h1 : behindInMarks .Is (.Constant (.bool k) j' pos') = false := by rfl) : PTc X E (.Compare a [.Is] [.Constant (.bool k) j' pos'] pos) (dB (dIsB k ta)) := by
  refine PT.imp (pt_cmpR (op_isBd k) ha pe_bl h1) fun σ H Q q => ?_
  obtain ⟨G, ρ, Qd, R, h, o⟩ := test_lift q
  refine ⟨G, ρ, _, R, h, fun d hd v G' H' S c r => ?_⟩
  exact ⟨rfl, G', d, r, hd.1, o _ hd.2 _ G' H' S c rfl⟩
theorem pte_din (hu : X.A.units + 1 < cLine) (he : PEc X E e te) (hi : X.N[i]? = some y := by rfl) (hv : Vis X.env.scope y := by first | exact .inl rfl | exact .inr (.inl rfl) | exact .inr (.inr rfl)) (hd : (y == ("__debug__" : Str)) = false := by decide) (hcd : (y == ("__classdict__" : Str)) = false := by decide) (h1 : behindInMarks .In (.Name y p) = false := by rfl) :
    PTc X E (.Compare e [.In] [.Name y p] pos) (dB (dDIn i te)) := by
  refine PT.imp (pt_cmp (pc_din hu he (pe_var hi hv hd hcd)) h1) fun σ H Q q => ?_
  obtain ⟨G, ρ, Qd, R, h, o⟩ := test_lift q
  refine ⟨G, ρ, _, R, h, fun d hd v G' H' S c r => ?_⟩
  obtain ⟨b, ns, rfl, hb, q⟩ := asRow_of c r hd
  have s := (R.go S c).slot i
  cases z : gt ρ i with
  | dic kvs =>
    rw [z] at q s
    obtain ⟨a, ea, ha, g, eh⟩ := s
    refine ⟨_, gv_some ea, a, _, rfl, .t (kvs := dV kvs) ha hb, ?_⟩
    rw [dV_get, Option.isSome_map]
    exact o _ q _ G' H' S c rfl
  | _ => rw [z] at q; exact (show False from q).elim
theorem pte_chain {op op' : CmpOp} {r r' : R2} {rd rd' : R2d} (ho : OpR X (compareOp op) r) (ho' : OpR X (compareOp op') r') (f : Fit2 r rd) (f' : Fit2 r' rd') (ha : PEc X E a ta) (hb : PEc X E b tb) (hc : PEc X E c tc) (hm : lastMarks [op, op'] [b, c] = false := by with_unfolding_all rfl) :
    PTc X E (.Compare a [op, op'] [b, c] pos) (dB (ChD rd rd' ta tb tc)) := by
  refine PT.imp (pt_chain ho ho' ha hb hc hm) fun σ H Q q => ?_
  obtain ⟨G, ρ, Qd, R, h, o⟩ := test_lift q
  refine ⟨G, ρ, _, R, h, fun x hx v G1 H1 S1 c1 r1 => ?_⟩
  refine ⟨G1, ρ, _, R.go S1 c1, hx, fun y hy u G2 H2 S2 c2 r2 => ?_⟩
  refine f G2 H2 v u x y _ _ c2 (r1.mono S2.g) r2 hy fun d hd w G3 H3 S3 c3 r3 => ?_
  cases d with
  | bl k =>
    refine ⟨k, r3, ?_⟩
    cases k with
    | true =>
      rw [if_pos rfl]
      have S13 := (S1.trans S2).trans S3
      exact ⟨G3, ρ, _, R.go S13 c3, hd.1 rfl, fun z hz w' G4 H4 S4 c4 r4 => f' G4 H4 u w' y z Qd _ c4 (r2.mono (S3.trans S4).g) r4 hz fun d2 hd2 w2 G5 H5 S5 c5 r5 => o d2 hd2 w2 G5 H5 (S13.trans (S4.trans S5)) c5 r5⟩
    | false =>
      rw [if_neg Bool.false_ne_true]
      exact o _ (hd.2 rfl) _ G3 H3 ((S1.trans S2).trans S3) c3 rfl
  | _ => exact (show False from hd).elim
end
end Cc
set_option Elab.async false
set_option linter.all false
set_option maxRecDepth 100000
set_option maxHeartbeats 2000000
/-! LayJ: a def that returns a list of its own in a pair; sorted; two dicts; a comprehension stored. -/
namespace Cc
open PySem PySem.Spec PyProof.Rows L2
section
variable {X : Cx} {E : Ent} {e a b c : Expr} {es : List Expr} {ta tb tc te : TEd} {tA tB : TTd} {t : TAd} {pos p : Pos} {i j : Nat} {x y z : Str}
theorem ptc_never : PTc X E e (fun _ _ => False) := ⟨fun _ _ _ _ _ _ h => (show False from let ⟨_, _, _, _, q, _⟩ := h; q).elim⟩
/-- sorted(list of one int) -/
def RSort1 : RAd := fun ds Q => match ds with
  | [.lst [.int n]] => Q (.lst [.int n])
  | _ => False
theorem pec_sorted1 (hm : X.mg "sorted" = none) (ha : PAc X E [e] t) (hg : Gl X "sorted" := by rfl) (hs : starEach [e] X.env = (false, eval e X.env) :: starEach [] X.env := by rfl) (hpl : (backTo pos (starEach [] X.env)).any (·.1) = false := by rfl) : PEc X E (.Call (.Name "sorted" p) [e] [] pos) (dCB RSort1 t) := by
  refine pec_callB cr_sorted ?_ hg hm rfl ha (by decide) (by decide) hs hpl
  intro G H vs ds Qd Q c r h o
  unfold RSort1 at h
  split at h
  · rename_i n
    cases r with
    | cons r1 r2 =>
      cases r2
      obtain ⟨a, vs, rfl, g, hs, rr⟩ := c.lst (K := X.K) r1
      have e : vs = [V.int n] := by
        have := Rps.of_ints (ns := [n]) rr
        exact this
      subst e
      refine ⟨a, [n], rfl, hs, by simp, fun ns' q hp _ hn => ?_⟩
      have e2 : ns' = [n] := List.perm_singleton.mp hp
      subst e2
      obtain ⟨s, c', r⟩ := new_lst (xs := [.int n]) c hn (.cons rfl .nil)
      exact o _ h _ _ _ s c' r
  · exact h.elim
/-- a, b = {}, {} -/
def dParKK (i j : Nat) : TSd := fun D ρ => D.nx (st (st ρ i (.dic [])) j (.dic []))
theorem psc_parKK {i j : Nat} {px py pt lpos lpos2 : Pos} {kt k2 pt2} (hc : X.calm = true) (hN : X.N.Nodup) (hi : X.N[i]? = some y := by rfl) (hj : X.N[j]? = some z := by rfl) (hij : i ≠ j := by decide)
    (hx : X.env.scope.names.lookup y = some .local := by rfl) (hy : X.env.scope.names.lookup z = some .local := by rfl)
    (hs1 : starEach [.Dict [] [] lpos, .Dict [] [] lpos2] X.env = (false, eval (.Dict [] [] lpos) X.env) :: starEach [.Dict [] [] lpos2] X.env := by rfl) (hs2 : starEach [.Dict [] [] lpos2] X.env = (false, eval (.Dict [] [] lpos2) X.env) :: starEach [] X.env := by rfl)
    (hw : swappedStores [.Tuple [.Name y px, .Name z py] kt pt] (.Tuple [.Dict [] [] lpos, .Dict [] [] lpos2] k2 pt2) X.env = pure (some [y, z]) := by rfl)
    (hs : swapsWithSole [.Tuple [.Name y px, .Name z py] kt pt] (.Tuple [.Dict [] [] lpos, .Dict [] [] lpos2] k2 pt2) pos.line X.env = pure false := by rfl) :
    PSc X E (.Assign [.Tuple [.Name y px, .Name z py] kt pt] (.Tuple [.Dict [] [] lpos, .Dict [] [] lpos2] k2 pt2) pos) (dParKK i j) := by
  refine PS.imp (ps_par hc hN hi hj hij hx hy (pa_cons pe_dnewT (pa_cons pe_dnewT pa_nil hs2) hs1) hw hs) fun D σ H q => ?_
  obtain ⟨G, ρ, d, R, h, o⟩ := q
  intro p np q nq
  refine ⟨_, _, rfl, ?_⟩
  have R1 : Rel E G (st ρ i (.dic [])) (σ.set i (some (.ref p))) (upd H p (.dT [])) := R.putDic np
  exact o.nx _ h G _ _ (fun _ _ e => e) (R1.putDic nq)
/-- a dict of the def's own, handed on unread -/
def dVarK (i : Nat) : TEd := fun ρ Q => isDic (gt ρ i) = true ∧ Q .opq
theorem pec_varK (hN : X.N[i]? = some x := by rfl) (hv : Vis X.env.scope x := by first | exact .inl rfl | exact .inr (.inl rfl) | exact .inr (.inr rfl)) (hd : (x == ("__debug__" : Str)) = false := by decide) (hcd : (x == ("__classdict__" : Str)) = false := by decide) : PEc X E (.Name x pos) (dVarK i) := by
  refine PE.imp (pe_var hN hv hd hcd) fun σ H Q h => ?_
  obtain ⟨G, ρ, Qd, R, h, o⟩ := h
  have s := R.slot i
  cases q : gt ρ i with
  | dic kvs =>
    rw [q] at s
    obtain ⟨a, e, _⟩ := s
    exact ⟨_, gv_some e, o _ h.2 _ G H .refl R.cons trivial⟩
  | _ => have h1 := h.1; rw [q] at h1; cases h1
/-! ### a pair of a list of its own and a datum -/
abbrev Spo := List D → (List D → D → Prop) → Prop
def liftSpo (spo : Spo) (n : Nat) : Sp := fun vs H Q _ => vs.length = n ∧ ∃ G ds Qd, Cons G H ∧ Rps G vs ds ∧ spo ds Qd ∧
  ∀ xs d, Qd xs d → ∀ tp l u vs' G' H', Step G H G' H' → Cons G' H' → H' tp = some (.tup [.ref l, u]) → H' l = some (.lst vs') → Rps G' vs' xs → Rp G' u d → G' l = none → H l = none → Q (.ref tp) H'
structure FnOwn (P : Program) (w : World) (K : PySem.W.Frag) (mg : Str → Option Value) (base : Heap) (k : Nat) (x : Str) (ps : List Str) (spo : Spo) : Prop where
  ex : ∃ f fd, mg x = some (.ref f) ∧ PySem.W.keepIn K (.ref f) = true ∧ Binds K fd ps [] ∧ FnOk P w K mg base CX0 k f fd ps (liftSpo spo ps.length)
  len : ∀ ds Q, spo ds Q → ds.length = ps.length
/-- return (a list of its own, a datum) -/
def retOwn (i j : Nat) : TS := fun D σ H => ∃ l u, gv σ i = some (.ref l) ∧ gv σ j = some u ∧ ∀ tp, H tp = none → D.rt (.ref tp) (upd H tp (.tup [.ref l, u]))
def behind (E : Ent) (t : TSd) (r : TS) : TS := fun D σ H => liftS E t { D with nx := r D } σ H
theorem pssr_last {st1 : Stmt} {rest : List Stmt} {ts : TSd} {r : TS} (h1 : PSc X E st1 ts) (h2 : PSs X rest r) : PSs X (st1 :: rest) (behind E ts r) := pss_cons h1 h2
theorem pssr_cons {st1 : Stmt} {rest : List Stmt} {ts us : TSd} {r : TS} (h1 : PSc X E st1 ts) (h2 : PSs X rest (behind E us r)) : PSs X (st1 :: rest) (behind E (dSeq ts us) r) := by
  refine PSs.imp (pss_cons h1 h2) fun D σ H q => ?_
  obtain ⟨G, ρ, d, R, h, o⟩ := q
  exact ⟨G, ρ, _, R, h, ⟨fun ρ' h' G' σ' H' g' R' => ⟨G', ρ', d, R', h', o.sub g'⟩, o.rt, o.bk, o.ct⟩⟩
theorem fnown_mk {P : Program} {w : World} {K : PySem.W.Frag} {mg : Str → Option Value} {base : Heap} {qual : Str} {params : Arguments} {body : List Stmt} {scope : Scope} {f : Addr} {fd : FuncData} {N ps : List Str} {k : Nat} {spo : Spo} (i j : Nat)
    (hm : mg x = some (.ref f)) (F : FunD K x qual params body scope [] [] f fd) (S : FnScope N ps scope) (hn : ps.length ≤ N.length)
    (hb : ∀ (kV doc pm : Value) (an : Option Addr) (cdv ct : Value) (us : List Value), us.length = ps.length → bindArgs (PySem.W.fnOf x qual params body scope .none kV doc pm an cdv ct) ⟨us, []⟩ = pure (ps.zip us))
    (len : ∀ ds Q, spo ds Q → ds.length = ps.length)
    (hbody : ∀ (E : Ent) (cdv : Value) (A : Around) (outer : List Env) (s : Shared) (H : Hp) (Ex : XK) (ds : List D) (Qd : List D → D → Prop), Room k (A.deeper (envOfC qual scope s.heap.objs.size f cdv)) → spo ds Qd →
      ∃ t, PSs (cxOf CX0 P w K mg base N qual scope f cdv A outer s H Ex).nox body (behind E t (retOwn i j)) ∧ t { nx := fun ρ => ∃ xs d, gt ρ i = .own xs ∧ gt ρ j = .d d ∧ Qd xs d, rt := fun _ => False } (startD N.length ds)) :
    FnOwn P w K mg base (k + 1) x ps spo := by
  refine ⟨⟨f, fd, hm, F.kp, F.bindsN hb, F.ok S (fun vs H Q E h => h.1) fun cdv A outer s H vs Q Ex hr h => ?_⟩, len⟩
  obtain ⟨hl, G, ds, Qd, c, r, hsp, o⟩ := h
  obtain ⟨t, h1, hq⟩ := hbody ⟨G, H⟩ cdv A outer s H Ex ds Qd hr hsp
  refine ⟨_, PSs.nox h1, G, _, _, rel_start c r (by rw [len _ _ hsp]; exact hn), hq, ?_⟩
  refine ⟨fun ρ hρ G' σ' H' g' R' => ?_, fun _ h => h.elim, fun _ h => h.elim, fun _ h => h.elim⟩
  obtain ⟨xs, d, hi, hj, hQ⟩ := hρ
  have si := R'.slot i
  have sj := R'.slot j
  rw [hi] at si
  rw [hj] at sj
  obtain ⟨l, vs', el, hl', rl, gl, el0⟩ := si
  obtain ⟨u, eu, ru⟩ := sj
  refine ⟨l, u, el, eu, fun tp ntp => ?_⟩
  have hne : l ≠ tp := fun e => by rw [e, ntp] at hl'; cases hl'
  exact o xs d hQ tp l u vs' G' _ (R'.step.trans (Step.new ntp)) (R'.cons.upd (R'.cons.free ntp)) upd_same (by rw [upd_ne hne]; exact hl') rl ru gl el0
theorem ret_pair {k1 : Nat} {q1 q2 q3 q4 : Pos} {y z : Str} (hi : X.N[i]? = some y := by rfl) (hj : X.N[j]? = some z := by rfl) (hv : Vis X.env.scope y := by first | exact .inl rfl | exact .inr (.inl rfl) | exact .inr (.inr rfl)) (hv2 : Vis X.env.scope z := by first | exact .inl rfl | exact .inr (.inl rfl) | exact .inr (.inr rfl))
    (hd : (y == ("__debug__" : Str)) = false := by decide) (hcd : (y == ("__classdict__" : Str)) = false := by decide) (hd2 : (z == ("__debug__" : Str)) = false := by decide) (hcd2 : (z == ("__classdict__" : Str)) = false := by decide)
    (hs1 : starEach [.Name y q1, .Name z q2] X.env = (false, eval (.Name y q1) X.env) :: starEach [.Name z q2] X.env := by rfl) (hs2 : starEach [.Name z q2] X.env = (false, eval (.Name z q2) X.env) :: starEach [] X.env := by rfl) :
    PSs X [.Return (some (.Tuple [.Name y q1, .Name z q2] k1 q3)) q4] (retOwn i j) := by
  refine PSs.imp (pss_one (ps_ret (pe_tup (pa_cons (pe_var hi hv hd hcd) (pa_cons (pe_var hj hv2 hd2 hcd2) pa_nil hs2) hs1)))) fun D σ H q => ?_
  obtain ⟨l, u, el, eu, q⟩ := q
  exact ⟨_, gv_some el, _, gv_some eu, by show 2 ≤ sizeLine; decide, q⟩
/-- a, b = f(..): a list of the caller's own from now on, and a datum -/
def dUnpOwn (i j : Nat) (spo : Spo) (t : TAd) : TSd := fun D ρ => t ρ fun ds => spo ds fun xs d => D.nx (st (st ρ i (.own xs)) j (.d d))
theorem psc_unpOwn {k : Nat} {ps : List Str} {spo : Spo} {f' : Str} {px py pt q1 q2 : Pos} {kt : Nat} (F : FnOwn X.prog X.w X.K X.mg X.base k f' ps spo) (hr : Room k X.A) (hc : X.calm = true) (hN : X.N.Nodup) (ha : PAc X E (e :: es) t) (hij : i ≠ j := by decide) (hi : X.N[i]? = some y := by rfl) (hj : X.N[j]? = some z := by rfl)
    (hx : L2.Loc X.env.scope y := by first | exact .inl rfl | exact .inr rfl) (hy : L2.Loc X.env.scope z := by first | exact .inl rfl | exact .inr rfl) (hfy : X.fn y = true ∨ X.env.scope.names.lookup y = some .local := by first | exact .inl rfl | exact .inr rfl) (hfz : X.fn z = true ∨ X.env.scope.names.lookup z = some .local := by first | exact .inl rfl | exact .inr rfl)
    (hg : Gl X f' := by rfl) (hdb : (f' == ("__debug__" : Str)) = false := by decide) (he : starEach (e :: es) X.env = (false, eval e X.env) :: starEach es X.env := by rfl) (hpl : (backTo q2 (starEach es X.env)).any (·.1) = false := by rfl)
    (hs : swapsWithSole [.Tuple [.Name y px, .Name z py] kt pt] (.Call (.Name f' q1) (e :: es) [] q2) pos.line X.env = pure false := by rfl) (hw : swappedStores [.Tuple [.Name y px, .Name z py] kt pt] (.Call (.Name f' q1) (e :: es) [] q2) X.env = pure none := by rfl)
    (h1 : (assignEach [.Tuple [.Name y px, .Name z py] kt pt] X.env).map (·.2) = [assign (.Tuple [.Name y px, .Name z py] kt pt) X.env] := by rfl) (hn : (assignEach [.Name y px, .Name z py] X.env).length = 2 := by rfl) (hst : (assignEach [.Name y px, .Name z py] X.env).findIdx? (·.1) = none := by rfl)
    (ha1 : (assignEach [.Name y px, .Name z py] X.env).map (·.2) = assign (.Name y px) X.env :: (assignEach [.Name z py] X.env).map (·.2) := by rfl) (ha2 : (assignEach [.Name z py] X.env).map (·.2) = assign (.Name z py) X.env :: (assignEach [] X.env).map (·.2) := by rfl) :
    PSc X E (.Assign [.Tuple [.Name y px, .Name z py] kt pt] (.Call (.Name f' q1) (e :: es) [] q2) pos) (dUnpOwn i j spo t) := by
  obtain ⟨f, fd, hm, hk, hb, F'⟩ := F.ex
  refine PS.imp (ps_asg (pe_call (E := fun _ _ _ => False) F' hr hg hm hk hb .nil (fun _ _ _ _ _ _ _ h => h.elim) ha hdb he hpl) (pg_tup hc (pgs_cons (pg_name hN hi hx hfy) (pgs_cons (pg_name hN hj hy hfz) pgs_nil ha2) ha1) hn hst) hs hw h1) fun D σ H q => ?_
  obtain ⟨G, ρ, d, R, h, o⟩ := q
  refine ⟨G, ρ, _, R, h, fun ds hds vs G1 H1 S1 c1 r1 => ?_⟩
  show liftSpo spo ps.length (vs ++ []) H1 _ _
  rw [List.append_nil]
  refine ⟨by rw [r1.length]; exact F.len _ _ hds, G1, ds, _, c1, r1, hds, fun xs dd hq tp l u vs' G' H' S' c' ht hl rl ru gl nl => ?_⟩
  refine ⟨tp, [.ref l, u], rfl, SqT.of ht, rfl, ?_⟩
  refine ⟨.ref l, [u], rfl, u, [], rfl, rfl, ?_⟩
  have R1 := R.go S1 c1
  have R2 := R1.go S' c'
  refine o.nx _ hq G' _ H' (S1.trans S').g (Rel.putD ?_ ru)
  exact R2.put (s := .own xs) (v := .ref l) ⟨l, vs', rfl, hl, rl, gl, R1.entFree nl⟩ fun _ m _ hm => R1.ownNe nl m hm
end
end Cc
set_option Elab.async false
set_option linter.all false
set_option maxRecDepth 100000
set_option maxHeartbeats 2000000
/-! LayK: the source of draws. -/
namespace Cc
open PySem PySem.Spec PyProof.Rows L2
def rGetN : V → V → Hp → VK → Prop := fun o i H Q => ∃ p xs v, ∃ k : Nat, o = .ref p ∧ i = .int (k : Nat) ∧ H p = some (.lst xs) ∧ xs[k]? = some v ∧ k < 1000 ∧ Q v H
theorem get_listN {X : Cx} : PGet X rGetN := by
  intro pins s σ H o i ov iv Q I ro ri h
  obtain ⟨p, xs, v, k, rfl, rfl, hp, hv, hk, q⟩ := h
  cases ro
  obtain ⟨t, rfl⟩ := ri
  obtain ⟨its, r, pl, hz⟩ := I.list (SqL.of hp)
  obtain ⟨w, ew, rw'⟩ := r.get hv
  exact wpAny_getItem_list (x := w) pl.isList (by omega) (by omega) (by simpa using ew) ⟨v, H, I, rw', q⟩
structure DealAt (H0 : Hp) (d c : Addr) (ns : List Int) (m k : Int) (H : Hp) : Prop where
  hd : H d = some (.lst [.ref c, .int m, .int k])
  hc : H c = some (.lst (ns.map V.int))
  nn : ∀ n ∈ ns, 0 ≤ n
  ln : ns.length ≤ 1000
  m0 : 0 ≤ m
  m1 : m < 2147483647
  k0 : 0 ≤ k
  ne : d ≠ c
  fr : ∀ b o, H0 b = some o → b ≠ d → b ≠ c → H b = some o
section
variable {H0 H : Hp} {d c : Addr} {ns : List Int} {m k : Int}
theorem DealAt.new (A : DealAt H0 d c ns m k H) {p : Addr} {o : HO} (n : H p = none) : DealAt H0 d c ns m k (upd H p o) := by
  have f : ∀ b o', H b = some o' → upd H p o b = some o' := fun b o' h => by rw [upd_ne (ne_of_none h n)]; exact h
  exact ⟨f _ _ A.hd, f _ _ A.hc, A.nn, A.ln, A.m0, A.m1, A.k0, A.ne, fun b o' h h1 h2 => f _ _ (A.fr b o' h h1 h2)⟩
theorem DealAt.setc (A : DealAt H0 d c ns m k H) {ns' : List Int} (nn : ∀ n ∈ ns', 0 ≤ n) (ln : ns'.length ≤ 1000) : DealAt H0 d c ns' m k (upd H c (.lst (ns'.map V.int))) :=
  ⟨by rw [upd_ne A.ne]; exact A.hd, upd_same, nn, ln, A.m0, A.m1, A.k0, A.ne, fun b o' h h1 h2 => by rw [upd_ne h2]; exact A.fr b o' h h1 h2⟩
theorem DealAt.setd (A : DealAt H0 d c ns m k H) {m' k' : Int} (m0 : 0 ≤ m') (m1 : m' < 2147483647) (k0 : 0 ≤ k') : DealAt H0 d c ns m' k' (upd H d (.lst [.ref c, .int m', .int k'])) :=
  ⟨upd_same, by rw [upd_ne (Ne.symm A.ne)]; exact A.hc, A.nn, A.ln, m0, m1, k0, A.ne, fun b o' h h1 h2 => by rw [upd_ne h1]; exact A.fr b o' h h1 h2⟩
theorem DealAt.start {G : Gh} (co : Cons G H) (gd : G d = some .deal) : ∃ c ns m k, DealAt H d c ns m k H ∧ G c = some .cell := by
  obtain ⟨c, m, k, hd, gc, m0, m1, k0⟩ := co d _ gd
  obtain ⟨ns, hc, nn, ln⟩ := co c _ gc
  refine ⟨c, ns, m, k, ⟨hd, hc, nn, ln, m0, m1, k0, ?_, fun b o h _ _ => h⟩, gc⟩
  rintro rfl
  rw [gd] at gc; cases gc
theorem DealAt.out {G : Gh} (co : Cons G H0) (gd : G d = some .deal) (gc : G c = some .cell) (A : DealAt H0 d c ns m k H) : Step G H0 G H ∧ Cons G H := by
  refine ⟨⟨fun _ _ e => e, fun b o e n => ⟨A.fr b o e (fun z => by rw [z, gd] at n; cases n) (fun z => by rw [z, gc] at n; cases n), n⟩⟩, fun b e g => ?_⟩
  by_cases h1 : b = d
  · subst h1
    rw [gd] at g; cases g
    exact ⟨c, m, k, A.hd, gc, A.m0, A.m1, A.k0⟩
  · by_cases h2 : b = c
    · subst h2
      rw [gc] at g; cases g
      exact ⟨ns, A.hc, A.nn, A.ln⟩
    · cases e0 : H0 b with
      | none => exact absurd e0 (co.there g)
      | some o => exact (co b e g).mono (fun _ _ z => z) (by rw [A.fr b o e0 h1 h2, e0])
end
theorem shaped_list (ns : List Int) : SeqAt.shaped (.list (ns.map PyData.int)) = true := by
  unfold SeqAt.shaped
  rw [Bool.and_eq_true]
  refine ⟨by simp [PyData.canLay0, lay_ints], decide_eq_true ?_⟩
  have h := depth_ints ns
  simp [PyData.depth] at h ⊢
  exact h
theorem eqv_nil (ns : List Int) : PyData.eqv (.list (ns.map PyData.int)) (.list []) = decide (ns = []) := by
  rw [PyData.eqv]
  have := eqv_ints ns []
  simpa using this
/-- xs != [] of a list of ints and one just laid -/
theorem ne_nil {K : PySem.W.Frag} {H : Hp} {c p : Addr} {ns : List Int} {Q : Bool → Hp → Prop} (hc : H c = some (.lst (ns.map V.int))) (hp : H p = some (.lst [])) (q : Q (!decide (ns = [])) H) :
    (fun x y H Q => rNe x y H Q ∨ rNeD K x y H Q) (.ref c) (.ref p) H (fun z H' => ∃ k, z = .bl k ∧ Q k H') := by
  refine .inr ⟨.list (ns.map PyData.int), .list [], .lst (SqL.of hc) (paired_ints ns), .lst (SqL.of hp) .nil, shaped_list ns, shaped_list [], _, rfl, ?_⟩
  rw [eqv_nil]; exact q
theorem at_last {α : Type} (xs : List α) (v : α) : atI (xs ++ [v]) (-1) = some v := by
  unfold atI
  have e : ixN (xs ++ [v]).length (-1) = some xs.length := by
    unfold ixN
    have hl : (xs ++ [v]).length = xs.length + 1 := by simp
    rw [hl, if_neg (by decide), if_pos (by omega)]
    congr 1
    omega
  rw [e]
  simp
theorem last_split {α : Type} {xs : List α} (h : xs ≠ []) : ∃ ys y, xs = ys ++ [y] := ⟨xs.dropLast, xs.getLast h, (List.dropLast_concat_getLast h).symm⟩
end Cc
namespace Cc
open PySem PySem.Spec PyProof.Rows L2
section
variable {X : Cx} {E : Ent} {a b : Expr} {ta tb : TEd} {pos : Pos}
/-- a product, one factor below 2 ** 64 -/
theorem pec_mulC (ha : PEc X E a ta) (hb : PEc X E b tb) : PEc X E (.BinOp a .Mult b pos) (dOp (II CMul fun i j => .int (i * j)) ta tb) := pec_op op_mul (fitI fun _ _ _ => rfl) ha hb
end
end Cc
set_option Elab.async false
set_option linter.all false
set_option maxRecDepth 100000
set_option maxHeartbeats 2000000
/-! LayL: the script, the making of the source of draws. -/
namespace Cc
open PySem PySem.Spec PyProof.Rows L2
section
variable {X : Cx} {E : Ent} {e a b e1 e2 e3 : Expr} {te th ta tb t1 t2 t3 : TEd} {pos : Pos}
theorem cutV_all {xs : List V} {k : Int} (h : (xs.length : Int) ≤ k) : cutV xs none (some k) = xs := by
  unfold cutV
  obtain ⟨n, rfl⟩ : ∃ n : Nat, k = n := ⟨k.toNat, by omega⟩
  rw [HT.sIx_none, HT.sIx_nat, List.drop_zero, Nat.sub_zero, Nat.min_eq_right (by omega), List.take_length]
/-- the script, no data -/
def Scr (K : PySem.W.Frag) (G : Gh) (H : Hp) (s : Addr) (xs : List V) : Prop := (Rd H s (.lst xs) ∧ G s = none) ∨ ∀ H', SqL K H' s xs
theorem Scr.of {K : PySem.W.Frag} {G : Gh} {H : Hp} {s : Addr} {xs : List V} (h : SqL K H s xs) (n : G s = none) : Scr K G H s xs := by
  rcases h with h | h
  · exact .inl ⟨h, n⟩
  · exact .inr fun _ => .inr h
theorem Scr.sql {K : PySem.W.Frag} {G : Gh} {H : Hp} {s : Addr} {xs : List V} (h : Scr K G H s xs) : SqL K H s xs := by
  rcases h with ⟨h, _⟩ | h
  · exact .inl h
  · exact h H
/-- the script stays -/
theorem Scr.stay {K : PySem.W.Frag} {G G' : Gh} {H H' : Hp} {s : Addr} {xs : List V} (h : Scr K G H s xs) (S : Step G H G' H') : Scr K G' H' s xs := by
  rcases h with ⟨h | ⟨o, h⟩, n⟩ | h
  · exact .inl ⟨.inl (S.h _ _ h n).1, (S.h _ _ h n).2⟩
  · exact .inl ⟨.inr ⟨o, (S.h _ _ h n).1⟩, (S.h _ _ h n).2⟩
  · exact .inr h
/-- script[:k], the whole -/
def dCutScr (s : Addr) (ns : List Int) (te th : TEd) : TEd := fun ρ Q => te ρ fun d => d = .scr s ∧ th ρ fun h => ∃ k : Int, h = .int k ∧ (ns.length : Int) ≤ k ∧ Q (.lst (ns.map D.int))
theorem pec_cutScr {s : Addr} {ns : List Int} {hi : Expr} {p2 : Pos} (hs : Scr X.K E.G E.H s (ns.map V.int)) (he : PEc X E e te) (hh : PEc X E hi th) : PEc X E (.Subscript e (.Slice none (some hi) none p2) pos) (dCutScr s ns te th) := by
  refine PE.imp (pe_slice sl_list he po_none (po_some hh)) fun σ H Q q => ?_
  obtain ⟨G, ρ, Qd, R, h, o⟩ := q
  refine ⟨G, ρ, _, R, h, fun d hd v G1 H1 S1 c1 r1 => ?_⟩
  obtain ⟨rfl, hd⟩ := hd
  cases (show v = .ref s from r1)
  refine ⟨G1, ρ, _, R.go S1 c1, hd, fun d2 hd2 v2 G2 H2 S2 c2 r2 => ?_⟩
  obtain ⟨k, rfl, hk, hq⟩ := hd2
  refine ⟨k, r2, s, _, rfl, (hs.stay (R.step.trans (S1.trans S2))).sql, fun p np => ?_⟩
  rw [cutV_all (by rw [List.length_map]; exact hk)]
  obtain ⟨s3, c3, r3⟩ := new_lst c2 np (Rps.ints (ns := ns))
  exact o _ hq _ _ _ ((S1.trans S2).trans s3) c3 r3
/-- [cells[::-1], mix, 0]: the source of draws -/
def dDeal (t1 t2 t3 : TEd) : TEd := fun ρ Q => t1 ρ fun d1 => ∃ ns : List Int, d1 = .lst (ns.map D.int) ∧ (∀ n ∈ ns, 0 ≤ n) ∧ ns.length ≤ 1000 ∧ t2 ρ fun d2 => ∃ m : Int, d2 = .int m ∧ 0 ≤ m ∧ m < 2147483647 ∧ t3 ρ fun d3 => ∃ k : Int, d3 = .int k ∧ 0 ≤ k ∧ Q .deal
theorem pec_deal {k : Nat} {p1 p2 p3 p4 : Pos} (h1 : PEc X E e1 t1) (h2 : PEc X E e2 t2) (h3 : PEc X E e3 t3) (n1 : ∀ e : Expr, starEach (.Subscript e (.Slice none none (some (.UnaryOp .USub (.Constant (.int 1) k p1) p2)) p3) p4 :: [e2, e3]) X.env = (false, eval (.Subscript e (.Slice none none (some (.UnaryOp .USub (.Constant (.int 1) k p1) p2)) p3) p4) X.env) :: starEach [e2, e3] X.env := by intro _; rfl) (n2 : starEach [e2, e3] X.env = (false, eval e2 X.env) :: starEach [e3] X.env := by rfl) (n3 : starEach [e3] X.env = (false, eval e3 X.env) :: starEach [] X.env := by rfl) : PEc X E (.List [.Subscript e1 (.Slice none none (some (.UnaryOp .USub (.Constant (.int 1) k p1) p2)) p3) p4, e2, e3] pos) (dDeal t1 t2 t3) := by
  refine PE.imp (pe_lst (pa_cons (pe_revL h1) (pa_cons h2 (pa_cons h3 pa_nil n3) n2) (n1 _))) fun σ H Q q => ?_
  obtain ⟨G, ρ, Qd, R, h, o⟩ := q
  refine ⟨G, ρ, _, R, h, fun d hd v G1 H1 S1 c1 r1 => ?_⟩
  obtain ⟨ns, rfl, nn, ln, hd⟩ := hd
  obtain ⟨a, vs, rfl, ga, hs, rr⟩ := c1.lst (K := X.K) r1
  rw [Rps.of_ints rr] at hs
  refine ⟨a, _, rfl, hs, fun p np => ?_⟩
  rw [← List.map_reverse]
  obtain ⟨s2, c2⟩ := new_obj (G := G1) (H := H1) (a := p) (o := .lst (ns.reverse.map V.int)) (d := .cell) c1 np ⟨ns.reverse, upd_same, fun n hn => nn n (List.mem_reverse.mp hn), by rw [List.length_reverse]; exact ln⟩
  have gp : (gup G1 p .cell) p = some .cell := gup_same
  refine ⟨_, ρ, _, (R.go S1 c1).go s2 c2, hd, fun d2 hd2 v2 G2 H2 S2 c2 r2 => ?_⟩
  obtain ⟨m, rfl, m0, m1, hd2⟩ := hd2
  cases (show v2 = .int m from r2)
  refine ⟨_, ρ, _, ((R.go S1 c1).go s2 (by assumption)).go S2 c2, hd2, fun d3 hd3 v3 G3 H3 S3 c3 r3 => ?_⟩
  obtain ⟨k', rfl, k0, hd3⟩ := hd3
  cases (show v3 = .int k' from r3)
  refine ⟨(show 3 ≤ sizeLine by decide), fun q nq => ?_⟩
  obtain ⟨s4, c4⟩ := new_obj (G := G3) (H := H3) (a := q) (o := .lst [.ref p, .int m, .int k']) (d := .deal) c3 nq ⟨p, m, k', upd_same, gup_sub (c3.free nq) _ _ (S3.g _ _ (S2.g _ _ gp)), m0, m1, k0⟩
  exact o _ hd3 _ _ _ ((((S1.trans s2).trans S2).trans S3).trans s4) c4 ⟨q, rfl, gup_same⟩
/-- name = [e for y in a list if t] -/
theorem psc_setLcL {i : Nat} {y0 : Str} {py0 spos : Pos} {elt iter : Expr} {ifs : List Expr} {scope : Scope} {y : Str} {iv : Nat} {py : Pos} {tt : TTd} {tx : TEd} (hc : X.calm = true) (hN : X.N.Nodup) (hx : PEc X E iter tx) (ok : BlkOk X.N X.env.scope scope [(y, iv)])
    (hg : ∀ (s : Shared) (H : Hp) (C : Addr) (cl : List (Str × Addr)) (fp : List Addr), PG (X.blk s H scope (compEnvC scope cl C X.env) fp) (.Name y py) (gName iv))
    (ht : ∀ (s : Shared) (H : Hp) (C : Addr) (cl : List (Str × Addr)) (fp : List Addr), PTs (X.blk s H scope (compEnvC scope cl C X.env) fp) ifs (liftT E tt))
    (he : ∀ (s : Shared) (H : Hp) (C : Addr) (cl : List (Str × Addr)) (fp : List Addr), PEc (X.blk s H scope (compEnvC scope cl C X.env) fp) E elt te)
    (hy : X.N[i]? = some y0 := by rfl) (hyl : X.env.scope.names.lookup y0 = some .local := by rfl) (hsw : swapsWith (.ListComp elt [⟨.Name y py, iter, ifs, 0⟩] scope pos) (some (.Name y0 py0)) spos.line X.env = pure true := by exact sw_true rfl rfl rfl rfl)
    (hfs : ∀ x, foldedSetIterable iter X.env x = pure x := by intro _; rfl) :
    PSc X E (.Assign [.Name y0 py0] (.ListComp elt [⟨.Name y py, iter, ifs, 0⟩] scope pos) spos) (dSet i (dLcL iv tx tt te)) := by
  refine PS.imp (ps_setLc (own := [(y, iv)]) hc hN hy hyl hsw (pi_list hx) ok hg ht he hfs) fun D σ H q => ?_
  obtain ⟨G, ρ, d, R, h, oo⟩ := q
  have o : Outc G H (fun x => d.nx (st ρ i (.d x))) (fun x H1 => gName i x σ H1 D.nx) := fun x hx v G' H' S c r => oo.nx _ hx G' _ H' S.g ((R.go S c).putD r)
  refine ⟨G, ρ, _, R, h, fun x hx v G1 H1 S1 c1 r1 => ?_⟩
  cases x with
  | lst xs =>
    obtain ⟨a, vs, rfl, ga, hs, rr⟩ := c1.lst (K := X.K) r1
    refine ⟨a, rfl, ⟨vs, hs⟩, ?_⟩
    refine comp_core (E := E) (G1 := G1) (H1 := H1) (n := xs.length) (at_ := fun i x => xs[i]? = some x) (ρ := ρ) (by rw [sizeLine_eq]; have := hx.1; omega) (R.go S1 c1) ?_ ?_ ?_ hx.2 fun d hd w G3 H3 S3 c3 r3 => o d hd w G3 H3 (S1.trans S3) c3 r3
    · intro i H G' hi g c
      obtain ⟨vs', h', r'⟩ := lst_len (K := X.K) c (g a _ ga)
      obtain ⟨w, ew, _⟩ := r'.get (List.getElem?_eq_getElem hi)
      exact ⟨vs', w, h', ew⟩
    · intro H G' g c
      obtain ⟨vs', h', r'⟩ := lst_len (K := X.K) c (g a _ ga)
      exact ⟨vs', h', by rw [r'.length]; exact Nat.le_refl _⟩
    · rintro i H G' v H' hi g c ⟨e1, e2⟩
      obtain ⟨vs', h', r'⟩ := lst_len (K := X.K) c (g a _ ga)
      obtain ⟨x, ex, rx⟩ := r'.getV (e2 vs' h')
      exact ⟨e1, x, ex, rx⟩
  | _ => exact (show False from hx).elim
end
end Cc
set_option Elab.async false
set_option linter.all false
set_option maxHeartbeats 400000
/-! Zp: whole numbers modulo a prime, a field. -/
namespace Ec
def Pr (p : Nat) : Prop := 2 ≤ p ∧ ∀ d, d ∣ p → d = 1 ∨ d = p
/-- a prime, found by instance -/
class Prm (p : Nat) : Prop where
  pr : Pr p
structure Zp (p : Nat) where
  v : Int
  lo : 0 ≤ v
  hi : v < p
theorem Zp.ext {p : Nat} {a b : Zp p} (h : a.v = b.v) : a = b := by
  cases a; cases b; cases h; rfl
instance {p : Nat} : DecidableEq (Zp p) := fun a b => if h : a.v = b.v then .isTrue (Zp.ext h) else .isFalse fun e => h (by rw [e])
section
variable {p : Nat} [hp : Prm p]
theorem ppos (p : Nat) [hp : Prm p] : (0 : Int) < p := by have := hp.pr.1; omega
/-- a whole number modulo p -/
def fi (p : Nat) [hp : Prm p] (x : Int) : Zp p := ⟨x % p, Int.emod_nonneg _ (by have := ppos p; omega), Int.emod_lt_of_pos _ (ppos p)⟩
theorem fi_v (x : Int) : (fi p x).v = x % p := rfl
theorem fi_val (a : Zp p) : fi p a.v = a := Zp.ext (Int.emod_eq_of_lt a.lo a.hi)
theorem fi_eq {x y : Int} : fi p x = fi p y ↔ (p : Int) ∣ x - y := by
  constructor
  · intro h
    have e : x % p = y % p := congrArg Zp.v h
    exact Int.dvd_of_emod_eq_zero (by rw [Int.sub_emod, e, Int.sub_self, Int.zero_emod])
  · intro h
    refine Zp.ext ?_
    show x % p = y % p
    exact Int.emod_eq_emod_iff_emod_sub_eq_zero.mpr (Int.emod_eq_zero_of_dvd h)
instance : Add (Zp p) := ⟨fun a b => fi p (a.v + b.v)⟩
instance : Mul (Zp p) := ⟨fun a b => fi p (a.v * b.v)⟩
instance : Neg (Zp p) := ⟨fun a => fi p (-a.v)⟩
instance : Sub (Zp p) := ⟨fun a b => fi p (a.v - b.v)⟩
instance (n : Nat) : OfNat (Zp p) n := ⟨fi p n⟩
instance : NatCast (Zp p) := ⟨fun n => fi p n⟩
instance : IntCast (Zp p) := ⟨fun n => fi p n⟩
instance : SMul Nat (Zp p) := ⟨fun n a => fi p (n * a.v)⟩
instance : SMul Int (Zp p) := ⟨fun n a => fi p (n * a.v)⟩
instance : HPow (Zp p) Nat (Zp p) := ⟨fun a n => fi p (a.v ^ n)⟩
theorem fi_add (x y : Int) : fi p x + fi p y = fi p (x + y) := Zp.ext (by show (x % p + y % p) % p = (x + y) % p; rw [← Int.add_emod])
theorem fi_mul (x y : Int) : fi p x * fi p y = fi p (x * y) := Zp.ext (by show (x % p * (y % p)) % p = (x * y) % p; rw [← Int.mul_emod])
theorem fi_neg (x : Int) : - fi p x = fi p (-x) := fi_eq.mpr (by
  show (p : Int) ∣ -(x % p) - -x
  exact ⟨x / p, by have := Int.mul_ediv_add_emod x p; omega⟩)
theorem fi_sub (x y : Int) : fi p x - fi p y = fi p (x - y) := Zp.ext (by show (x % p - y % p) % p = (x - y) % p; rw [← Int.sub_emod])
theorem fi_pow (x : Int) (n : Nat) : fi p x ^ n = fi p (x ^ n) := by
  show fi p ((x % p) ^ n) = fi p (x ^ n)
  induction n with
  | zero => rw [Int.pow_zero, Int.pow_zero]
  | succ n ih =>
    rw [Int.pow_succ, Int.pow_succ, ← fi_mul, ih, ← fi_mul]
    congr 1
    exact Zp.ext (Int.emod_emod_of_dvd x (Int.dvd_refl _))
theorem fi_lit (n : Nat) : (OfNat.ofNat n : Zp p) = fi p n := rfl
theorem ind1 {P : Zp p → Prop} (h : ∀ x, P (fi p x)) (a : Zp p) : P a := by rw [← fi_val a]; exact h _
theorem inv_ex : ∀ (n : Nat) (a : Int), 0 < a → a < p → a ≤ n → ∃ b : Int, (p : Int) ∣ a * b - 1
  | 0, a, h, _, h2 => by omega
  | n + 1, a, h0, h1, h2 => by
    by_cases e : a = 1
    · exact ⟨1, by subst e; simp⟩
    · have hr := Int.mul_ediv_add_emod p a
      have r0 : 0 ≤ (p : Int) % a := Int.emod_nonneg _ (by omega)
      have r1 : (p : Int) % a < a := Int.emod_lt_of_pos _ h0
      have r2 : (p : Int) % a ≠ 0 := by
        intro z
        have hd : a ∣ (p : Int) := Int.dvd_of_emod_eq_zero z
        have hd2 : a.toNat ∣ p := by
          have : ((a.toNat : Nat) : Int) ∣ (p : Int) := by rw [Int.toNat_of_nonneg (by omega)]; exact hd
          exact Int.natCast_dvd_natCast.mp this
        rcases hp.pr.2 _ hd2 with q | q <;> omega
      obtain ⟨b, c, hb⟩ := inv_ex n ((p : Int) % a) (by omega) (by omega) (by omega)
      refine ⟨-((p : Int) / a) * b, c - b, ?_⟩
      have : (p : Int) % a = p - a * (p / a) := by omega
      rw [this, Int.sub_mul] at hb
      have e1 : a * (-((p : Int) / a) * b) = -(a * ((p : Int) / a) * b) := by rw [Int.neg_mul, Int.mul_neg, Int.mul_assoc]
      rw [e1, Int.mul_sub]
      omega
open Classical in
noncomputable instance : Inv (Zp p) := ⟨fun a => if h : ∃ b : Zp p, a * b = 1 then h.choose else 0⟩
noncomputable instance : Div (Zp p) := ⟨fun a b => a * b⁻¹⟩
theorem fi_zero_iff {x : Int} : fi p x = 0 ↔ (p : Int) ∣ x := by
  have := @fi_eq p hp x 0
  rw [Int.sub_zero] at this
  exact this
theorem zp_inv_ex {a : Zp p} (h : a ≠ 0) : ∃ b : Zp p, a * b = 1 := by
  have h0 : 0 < a.v := by
    have := a.lo
    rcases Int.lt_or_eq_of_le this with q | q
    · exact q
    · exact absurd (Zp.ext (by rw [← q]; show (0 : Int) = ((0 : Nat) : Int) % p; simp)) h
  obtain ⟨b, hb⟩ := inv_ex a.v.toNat a.v h0 a.hi (by omega)
  refine ⟨fi p b, ?_⟩
  rw [← fi_val a, fi_mul]
  exact fi_eq.mpr hb
open Classical in
theorem zp_mul_inv {a : Zp p} (h : a ≠ 0) : a * a⁻¹ = 1 := by
  have e := zp_inv_ex h
  have q : a⁻¹ = e.choose := dif_pos e
  rw [q]
  exact e.choose_spec
theorem zp_one_ne : (0 : Zp p) ≠ 1 := by
  intro h
  have := fi_eq.mp (show fi p ((0 : Nat) : Int) = fi p ((1 : Nat) : Int) from h)
  have h2 := hp.pr.1
  have : (p : Int) ∣ 1 := by
    have h3 : ((0 : Nat) : Int) - ((1 : Nat) : Int) = -1 := by decide
    rw [h3] at this
    exact Int.dvd_neg.mp this
  have := Int.le_of_dvd (by decide) this
  omega
noncomputable def zpw (a : Zp p) : Int → Zp p
  | .ofNat n => a ^ n
  | .negSucc n => (a ^ (n + 1))⁻¹
noncomputable instance : HPow (Zp p) Int (Zp p) := ⟨zpw⟩
theorem zp_pow_zero (a : Zp p) : a ^ 0 = 1 := by show fi p (a.v ^ 0) = fi p 1; rw [Int.pow_zero]
theorem zp_pow_succ (a : Zp p) (n : Nat) : a ^ (n + 1) = a ^ n * a := by
  rw [← fi_val a, fi_pow, fi_pow, fi_mul, Int.pow_succ]
theorem zp_inv_inv_one : (1 : Zp p)⁻¹ = 1 := by
  have h := zp_mul_inv (p := p) (a := 1) (fun e => zp_one_ne e.symm)
  have e : ∀ b : Zp p, 1 * b = b := fun b => by
    rw [← fi_val b]
    show fi p 1 * fi p _ = _
    rw [fi_mul, Int.one_mul]
  rw [e] at h
  exact h
instance ringZp : Lean.Grind.CommRing (Zp p) where
  nsmul := inferInstance
  zsmul := inferInstance
  npow := ⟨fun a n => a ^ n⟩
  natCast := inferInstance
  intCast := inferInstance
  add_assoc a b c := by rw [← fi_val a, ← fi_val b, ← fi_val c]; simp only [fi_add, Int.add_assoc]
  add_comm a b := by rw [← fi_val a, ← fi_val b]; simp only [fi_add, Int.add_comm]
  add_zero a := by rw [← fi_val a]; show fi p _ + fi p 0 = _; rw [fi_add, Int.add_zero]
  neg_add_cancel a := by rw [← fi_val a, fi_neg, fi_add]; show fi p _ = fi p 0; congr 1; omega
  mul_assoc a b c := by rw [← fi_val a, ← fi_val b, ← fi_val c]; simp only [fi_mul, Int.mul_assoc]
  mul_comm a b := by rw [← fi_val a, ← fi_val b]; simp only [fi_mul, Int.mul_comm]
  mul_one a := by rw [← fi_val a]; show fi p _ * fi p 1 = _; rw [fi_mul, Int.mul_one]
  one_mul a := by rw [← fi_val a]; show fi p 1 * fi p _ = _; rw [fi_mul, Int.one_mul]
  left_distrib a b c := by rw [← fi_val a, ← fi_val b, ← fi_val c]; simp only [fi_add, fi_mul, Int.mul_add]
  right_distrib a b c := by rw [← fi_val a, ← fi_val b, ← fi_val c]; simp only [fi_add, fi_mul, Int.add_mul]
  zero_mul a := by rw [← fi_val a]; show fi p 0 * fi p _ = fi p 0; rw [fi_mul, Int.zero_mul]
  mul_zero a := by rw [← fi_val a]; show fi p _ * fi p 0 = fi p 0; rw [fi_mul, Int.mul_zero]
  pow_zero a := zp_pow_zero a
  pow_succ a n := zp_pow_succ a n
  ofNat_succ n := by show fi p _ = fi p _ + fi p 1; rw [fi_add]; congr 1
  ofNat_eq_natCast n := rfl
  nsmul_eq_natCast_mul n a := by rw [← fi_val a]; show fi p (n * (fi p a.v).v) = fi p n * fi p a.v; rw [fi_mul, fi_val]
  sub_eq_add_neg a b := by rw [← fi_val a, ← fi_val b, fi_sub, fi_neg, fi_add, Int.sub_eq_add_neg]
  intCast_ofNat n := rfl
  intCast_neg n := by show fi p _ = - fi p _; rw [fi_neg]
  neg_zsmul n a := by
    show fi p (-n * a.v) = - fi p (n * a.v)
    rw [fi_neg, Int.neg_mul]
  zsmul_natCast_eq_nsmul n a := rfl
theorem zp_inv_zero : (0 : Zp p)⁻¹ = 0 := by
  have h : ¬ ∃ b : Zp p, 0 * b = 1 := fun ⟨b, hb⟩ => by
    rw [Lean.Grind.Semiring.zero_mul] at hb
    exact zp_one_ne hb
  exact dif_neg h
theorem zp_inv_unique {a b : Zp p} (h : a * b = 1) : a⁻¹ = b := by
  have ha : a ≠ 0 := fun e => by
    rw [e, Lean.Grind.Semiring.zero_mul] at h
    exact zp_one_ne h
  have h2 := zp_mul_inv ha
  have : a⁻¹ * (a * b) = b := by rw [← Lean.Grind.Semiring.mul_assoc, Lean.Grind.CommSemiring.mul_comm a⁻¹ a, h2, Lean.Grind.Semiring.one_mul]
  rw [h, Lean.Grind.Semiring.mul_one] at this
  exact this
theorem zp_inv_inv (a : Zp p) : a⁻¹⁻¹ = a := by
  by_cases h : a = 0
  · rw [h, zp_inv_zero, zp_inv_zero]
  · exact zp_inv_unique (by rw [Lean.Grind.CommSemiring.mul_comm]; exact zp_mul_inv h)
noncomputable instance fieldZp : Lean.Grind.Field (Zp p) where
  toInv := inferInstance
  toDiv := inferInstance
  zpow := inferInstance
  div_eq_mul_inv _ _ := rfl
  zero_ne_one := zp_one_ne
  inv_zero := zp_inv_zero
  mul_inv_cancel := zp_mul_inv
  zpow_zero a := zp_pow_zero a
  zpow_succ a n := zp_pow_succ a n
  zpow_neg a n := by
    cases n with
    | ofNat n =>
      cases n with
      | zero =>
        have e : zpw a (Int.ofNat 0) = 1 := zp_pow_zero a
        show zpw a (Int.ofNat 0) = (zpw a (Int.ofNat 0))⁻¹
        rw [e, zp_inv_inv_one]
      | succ n => rfl
    | negSucc n => exact (zp_inv_inv _).symm
end
end Ec
set_option Elab.async false
set_option linter.all false
set_option maxHeartbeats 1000000
/-! Ecg: the sum of points on y*y = x*x*x + a*x + b over a field; it is a group. -/
namespace Ec
open Lean.Grind
abbrev Pt (F : Type) := Option (F × F)
section
variable {F : Type} [Field F] [DecidableEq F] {a b : F}
def On (a b : F) : Pt F → Prop
  | none => True
  | some (x, y) => y * y = x * x * x + a * x + b
def neg : Pt F → Pt F
  | none => none
  | some (x, y) => some (x, -y)
noncomputable def slp (a x1 y1 x2 y2 : F) : F := if x1 = x2 then (3 * x1 * x1 + a) * (2 * y1)⁻¹ else (y2 - y1) * (x2 - x1)⁻¹
noncomputable def add (a : F) : Pt F → Pt F → Pt F
  | none, Q => Q
  | P, none => P
  | some (x1, y1), some (x2, y2) => if x1 = x2 ∧ y1 + y2 = 0 then none else
    let l := slp a x1 y1 x2 y2
    let x := l * l - x1 - x2
    some (x, l * (x1 - x) - y1)
/-- l is the slope through both -/
structure Sl (a x1 y1 x2 y2 l : F) : Prop where
  s1 : y1 - y2 = l * (x1 - x2)
  s2 : l * (y1 + y2) = x1 * x1 + x1 * x2 + x2 * x2 + a
theorem slp_ok (h2 : (2 : F) ≠ 0) {x1 y1 x2 y2 : F} (h1 : y1 * y1 = x1 * x1 * x1 + a * x1 + b) (h3 : y2 * y2 = x2 * x2 * x2 + a * x2 + b) (n : ¬ (x1 = x2 ∧ y1 + y2 = 0)) : Sl a x1 y1 x2 y2 (slp a x1 y1 x2 y2) := by
  unfold slp
  by_cases e : x1 = x2
  · rw [if_pos e]
    have hy : y1 + y2 ≠ 0 := fun z => n ⟨e, z⟩
    have e2 : y1 = y2 := by grind
    have hy1 : 2 * y1 ≠ 0 := by grind
    constructor <;> grind
  · rw [if_neg e]
    have hx : x2 - x1 ≠ 0 := by grind
    constructor <;> grind
theorem sl_uniq {x1 y1 x2 y2 l m : F} (n : ¬ (x1 = x2 ∧ y1 + y2 = 0)) (h : Sl a x1 y1 x2 y2 l) (k : Sl a x1 y1 x2 y2 m) : l = m := by
  obtain ⟨h1, h2⟩ := h
  obtain ⟨k1, k2⟩ := k
  by_cases e : x1 = x2
  · have hy : y1 + y2 ≠ 0 := fun z => n ⟨e, z⟩
    grind
  · have hx : x1 - x2 ≠ 0 := by grind
    grind
theorem add_eq (h2 : (2 : F) ≠ 0) {x1 y1 x2 y2 l : F} (h1 : y1 * y1 = x1 * x1 * x1 + a * x1 + b) (h3 : y2 * y2 = x2 * x2 * x2 + a * x2 + b) (n : ¬ (x1 = x2 ∧ y1 + y2 = 0)) (h : Sl a x1 y1 x2 y2 l) :
    add a (some (x1, y1)) (some (x2, y2)) = some (l * l - x1 - x2, l * (x1 - (l * l - x1 - x2)) - y1) := by
  have e := sl_uniq n (slp_ok h2 h1 h3 n) h
  show (if x1 = x2 ∧ y1 + y2 = 0 then none else _) = _
  rw [if_neg n, e]
theorem add_opp {x1 y1 x2 y2 : F} (h : x1 = x2) (h' : y1 + y2 = 0) : add a (some (x1, y1)) (some (x2, y2)) = none := if_pos ⟨h, h'⟩
theorem sl_on {x1 y1 x2 y2 l : F} (h1 : y1 * y1 = x1 * x1 * x1 + a * x1 + b) (h3 : y2 * y2 = x2 * x2 * x2 + a * x2 + b) (h : Sl a x1 y1 x2 y2 l) (x y : F) (ex : x = l * l - x1 - x2) (ey : y = l * (x1 - x) - y1) : y * y = x * x * x + a * x + b := by
  obtain ⟨s1, s2⟩ := h
  grind
theorem on_add (h2 : (2 : F) ≠ 0) {P Q : Pt F} (hP : On a b P) (hQ : On a b Q) : On a b (add a P Q) := by
  match P, Q with
  | none, _ => exact hQ
  | some _, none => exact hP
  | some (x1, y1), some (x2, y2) =>
    by_cases n : x1 = x2 ∧ y1 + y2 = 0
    · rw [add_opp n.1 n.2]; trivial
    · have s := slp_ok h2 hP hQ n
      rw [add_eq h2 hP hQ n s]
      exact sl_on hP hQ s _ _ rfl rfl
theorem on_neg {P : Pt F} (hP : On a b P) : On a b (neg P) := by
  match P with
  | none => trivial
  | some (x, y) => show (-y) * (-y) = _; have : y * y = x * x * x + a * x + b := hP; grind
theorem Sl.symm {x1 y1 x2 y2 l : F} (h : Sl a x1 y1 x2 y2 l) : Sl a x2 y2 x1 y1 l := by
  obtain ⟨s1, s2⟩ := h
  constructor <;> grind
theorem add_zero (P : Pt F) : add a P none = P := by cases P <;> rfl
theorem zero_add (P : Pt F) : add a none P = P := rfl
theorem add_neg (P : Pt F) : add a P (neg P) = none := by
  match P with
  | none => rfl
  | some (x, y) => exact add_opp rfl (by grind)
theorem add_comm (h2 : (2 : F) ≠ 0) {P Q : Pt F} (hP : On a b P) (hQ : On a b Q) : add a P Q = add a Q P := by
  match P, Q with
  | none, Q => rw [add_zero]; rfl
  | some _, none => rfl
  | some (x1, y1), some (x2, y2) =>
    by_cases n : x1 = x2 ∧ y1 + y2 = 0
    · rw [add_opp n.1 n.2, add_opp n.1.symm (by grind)]
    · have s := slp_ok h2 hP hQ n
      rw [add_eq h2 hP hQ n s, add_eq h2 hQ hP (by grind) s.symm]
      obtain ⟨s1, s2⟩ := s
      generalize slp a x1 y1 x2 y2 = l at *
      congr 2 <;> grind
theorem neg_neg (P : Pt F) : neg (neg P) = P := by
  match P with
  | none => rfl
  | some (x, y) => show some (x, - -y) = _; congr 2; grind
theorem neg_add (h2 : (2 : F) ≠ 0) {P Q : Pt F} (hP : On a b P) (hQ : On a b Q) : neg (add a P Q) = add a (neg P) (neg Q) := by
  match P, Q with
  | none, Q => rfl
  | some _, none => rfl
  | some (x1, y1), some (x2, y2) =>
    have hP' := on_neg hP
    have hQ' := on_neg hQ
    by_cases n : x1 = x2 ∧ y1 + y2 = 0
    · rw [add_opp n.1 n.2]
      show none = add a (some (x1, -y1)) (some (x2, -y2))
      rw [add_opp n.1 (by grind)]
    · have s := slp_ok h2 hP hQ n
      rw [add_eq h2 hP hQ n s]
      show some (_, _) = add a (some (x1, -y1)) (some (x2, -y2))
      obtain ⟨s1, s2⟩ := s
      generalize slp a x1 y1 x2 y2 = l at *
      rw [add_eq h2 hP' hQ' (by grind) (l := -l) ⟨by grind, by grind⟩]
      congr 2 <;> grind
/-- P + (-P + R) = R -/
theorem add_back (h2 : (2 : F) ≠ 0) (ns : 4 * a * a * a + 27 * b * b ≠ 0) {P R : Pt F} (hP : On a b P) (hR : On a b R) : add a P (add a (neg P) R) = R := by
  match P, R with
  | none, R => rfl
  | some (x1, y1), none => exact add_neg _
  | some (x1, y1), some (x3, y3) =>
    have hP' := on_neg hP
    by_cases n : x1 = x3 ∧ -y1 + y3 = 0
    · show add a _ (add a (some (x1, -y1)) (some (x3, y3))) = _
      rw [add_opp n.1 n.2, add_zero]
      have e1 := n.1
      have e2 : y1 = y3 := by have := n.2; grind
      rw [e1, e2]
    · have s := slp_ok h2 hP' hR n
      show add a _ (add a (some (x1, -y1)) (some (x3, y3))) = _
      rw [add_eq h2 hP' hR n s]
      have ho := sl_on hP' hR s _ _ rfl rfl
      generalize slp a x1 (-y1) x3 y3 = l at *
      obtain ⟨s1, s2⟩ := s
      have hP0 : y1 * y1 = x1 * x1 * x1 + a * x1 + b := hP
      have hR0 : y3 * y3 = x3 * x3 * x3 + a * x3 + b := hR
      have ex : ∃ x4, x4 = l * l - x1 - x3 := ⟨_, rfl⟩
      obtain ⟨x4, e4⟩ := ex
      have ey : ∃ y4, y4 = l * (x1 - x4) - -y1 := ⟨_, rfl⟩
      obtain ⟨y4, f4⟩ := ey
      rw [← e4, ← f4] at ho ⊢
      have n2 : ¬ (x1 = x4 ∧ y1 + y4 = 0) := by
        rintro ⟨p, q⟩
        have z : y1 = 0 := by grind
        have d1 : x1 * x1 * x1 + a * x1 + b = 0 := by grind
        have d2 : 3 * x1 * x1 + a = 0 := by grind
        apply ns
        have ha : a = -(3 * x1 * x1) := by grind
        have hb : b = 2 * x1 * x1 * x1 := by grind
        rw [ha, hb]
        grind
      rw [add_eq h2 hP ho n2 (l := -l) ⟨by grind, by grind⟩]
      congr 2 <;> grind
end
end Ec
set_option Elab.async false
set_option linter.all false
set_option maxHeartbeats 2000000
/-! Eca: the sum is associative. -/
namespace Ec
open Lean.Grind
section
variable {F : Type} [Field F] [DecidableEq F] {a b : F}
/-- the slope from P + Q to R, where that from P to Q is l, from Q to R is m, and not the same -/
theorem sl_next (h2 : (2 : F) ≠ 0) {x1 y1 x2 y2 x3 y3 l m w x4 y4 : F} (q1 : y1 * y1 = x1 * x1 * x1 + a * x1 + b) (q2 : y2 * y2 = x2 * x2 * x2 + a * x2 + b) (q3 : y3 * y3 = x3 * x3 * x3 + a * x3 + b)
    (hl : Sl a x1 y1 x2 y2 l) (hm : Sl a x2 y2 x3 y3 m) (ne : l - m ≠ 0) (hw : (l - m) * w = x1 - x3) (e4 : x4 = l * l - x1 - x2) (f4 : y4 = l * (x1 - x4) - y1) (n : ¬ (x4 = x3 ∧ y4 + y3 = 0)) :
    Sl a x4 y4 x3 y3 (w - l) := by
  have q4 := sl_on q1 q2 hl x4 y4 e4 f4
  obtain ⟨l1, l2⟩ := hl
  obtain ⟨m1, m2⟩ := hm
  have s1 : y4 - y3 = (w - l) * (x4 - x3) := by
    have : (l - m) * (y4 - y3) = (l - m) * ((w - l) * (x4 - x3)) := by grind
    grind
  refine ⟨s1, ?_⟩
  by_cases e : x4 = x3
  · have hy : y4 = y3 := by grind
    have k1 : y2 + y3 = l * (x2 - x3) := by grind
    have k2 : 2 * y3 = (l - m) * (x2 - x3) := by grind
    have : (l - m) * ((w - l) * (y4 + y3)) = (l - m) * (x4 * x4 + x4 * x3 + x3 * x3 + a) := by grind
    grind
  · have hx : x4 - x3 ≠ 0 := by grind
    have : (x4 - x3) * ((w - l) * (y4 + y3)) = (x4 - x3) * (x4 * x4 + x4 * x3 + x3 * x3 + a) := by grind
    grind
theorem add_assoc (h2 : (2 : F) ≠ 0) (ns : 4 * a * a * a + 27 * b * b ≠ 0) {P Q R : Pt F} (hP : On a b P) (hQ : On a b Q) (hR : On a b R) : add a (add a P Q) R = add a P (add a Q R) := by
  match P, Q, R with
  | none, Q, R => rfl
  | some _, none, R => rfl
  | some _, some _, none => rw [add_zero, add_zero]
  | some (x1, y1), some (x2, y2), some (x3, y3) =>
    by_cases n12 : x1 = x2 ∧ y1 + y2 = 0
    · rw [add_opp n12.1 n12.2]
      have : (some (x1, y1) : Pt F) = neg (some (x2, y2)) := by
        have := n12.1
        have := n12.2
        show _ = some (x2, -y2)
        congr 2 <;> grind
      have h := add_back h2 ns (on_neg hQ) hR
      rw [neg_neg] at h
      rw [this, h, zero_add]
    by_cases n23 : x2 = x3 ∧ y2 + y3 = 0
    · rw [add_opp n23.1 n23.2]
      have : (some (x3, y3) : Pt F) = neg (some (x2, y2)) := by
        have := n23.1
        have := n23.2
        show _ = some (x2, -y2)
        congr 2 <;> grind
      have h := add_back h2 ns (on_neg hQ) hP
      rw [neg_neg] at h
      rw [this, add_zero, add_comm h2 (on_add h2 hP hQ) (on_neg hQ), add_comm h2 hP hQ, h]
    have hl := slp_ok h2 hP hQ n12
    have hm := slp_ok h2 hQ hR n23
    have hS := on_add h2 hP hQ
    have hT := on_add h2 hQ hR
    by_cases n43 : add a (some (x1, y1)) (some (x2, y2)) = neg (some (x3, y3))
    · rw [n43]
      have e3 : (some (x3, y3) : Pt F) = add a (neg (some (x2, y2))) (neg (some (x1, y1))) := by
        rw [add_comm h2 (on_neg hQ) (on_neg hP), ← neg_add h2 hP hQ, n43, neg_neg]
      have h5 : add a (some (x2, y2)) (some (x3, y3)) = neg (some (x1, y1)) := by
        rw [e3]; exact add_back h2 ns hQ (on_neg hP)
      rw [h5, add_neg, add_comm h2 (on_neg hR) hR, add_neg]
    by_cases n15 : add a (some (x2, y2)) (some (x3, y3)) = neg (some (x1, y1))
    · rw [n15, add_neg]
      have e1 : (some (x1, y1) : Pt F) = add a (neg (some (x2, y2))) (neg (some (x3, y3))) := by
        rw [← neg_add h2 hQ hR, n15, neg_neg]
      have h4 : add a (some (x1, y1)) (some (x2, y2)) = neg (some (x3, y3)) := by
        rw [add_comm h2 hP hQ, e1]; exact add_back h2 ns hQ (on_neg hR)
      exact absurd h4 n43
    have A4 := add_eq h2 hP hQ n12 hl
    have A5 := add_eq h2 hQ hR n23 hm
    generalize slp a x1 y1 x2 y2 = l at *
    generalize slp a x2 y2 x3 y3 = m at *
    obtain ⟨x4, e4⟩ : ∃ x4, x4 = l * l - x1 - x2 := ⟨_, rfl⟩
    obtain ⟨y4, f4⟩ : ∃ y4, y4 = l * (x1 - x4) - y1 := ⟨_, rfl⟩
    obtain ⟨x5, e5⟩ : ∃ x5, x5 = m * m - x2 - x3 := ⟨_, rfl⟩
    obtain ⟨y5, f5⟩ : ∃ y5, y5 = m * (x2 - x5) - y2 := ⟨_, rfl⟩
    rw [← e4, ← f4] at A4
    rw [← e5, ← f5] at A5
    rw [A4] at n43 hS ⊢
    rw [A5] at n15 hT ⊢
    have m43 : ¬ (x4 = x3 ∧ y4 + y3 = 0) := by
      rintro ⟨p, q⟩
      apply n43
      show some (x4, y4) = some (x3, -y3)
      congr 2
      grind
    have m15 : ¬ (x1 = x5 ∧ y1 + y5 = 0) := by
      rintro ⟨p, q⟩
      apply n15
      show some (x5, y5) = some (x1, -y1)
      congr 2 <;> grind
    by_cases ne : l - m = 0
    · have elm : l = m := by grind
      subst elm
      have k : (x1 - x3) * (x2 - x3) * (x4 - x3) = 0 := by
        obtain ⟨l1, l2⟩ := hl
        obtain ⟨m1, m2⟩ := hm
        have hR0 : y3 * y3 = x3 * x3 * x3 + a * x3 + b := hR
        have hP0 : y1 * y1 = x1 * x1 * x1 + a * x1 + b := hP
        grind
      by_cases d1 : x1 = x3
      · -- R = P
        have : y1 = y3 := by
          obtain ⟨l1, l2⟩ := hl
          obtain ⟨m1, m2⟩ := hm
          grind
        have e5' : x5 = x4 := by grind
        have f5' : y5 = y4 := by
          obtain ⟨l1, l2⟩ := hl
          grind
        subst d1 this e5' f5'
        exact add_comm h2 hS hP
      · by_cases d2 : x2 = x3
        · have y23 : y2 = y3 := by
            obtain ⟨m1, m2⟩ := hm
            grind
          subst d2 y23
          -- the line is tangent at Q
          have k2 : (x1 - x2) * (x4 - x2) = 0 := by
            obtain ⟨l1, l2⟩ := hl
            obtain ⟨m1, m2⟩ := hm
            grind
          have : x4 = x2 := by grind
          exfalso
          apply m43
          refine ⟨this, ?_⟩
          obtain ⟨l1, l2⟩ := hl
          grind
        · exfalso
          have : x4 = x3 := by grind
          apply m43
          refine ⟨this, ?_⟩
          obtain ⟨l1, l2⟩ := hl
          obtain ⟨m1, m2⟩ := hm
          grind
    · obtain ⟨w, hw⟩ : ∃ w, (l - m) * w = x1 - x3 := ⟨(x1 - x3) * (l - m)⁻¹, by grind⟩
      have u1 := sl_next h2 hP hQ hR hl hm ne hw e4 f4 m43
      have ne' : m - l ≠ 0 := by grind
      have e5' : x5 = m * m - x3 - x2 := by grind
      have f5' : y5 = m * (x3 - x5) - y3 := by
        obtain ⟨m1, m2⟩ := hm
        grind
      have u2 := sl_next h2 hR hQ hP hm.symm hl.symm ne' (w := w) (by grind) e5' f5' (by grind)
      rw [add_eq h2 hS hR m43 u1, add_eq h2 hP hT m15 u2.symm]
      obtain ⟨l1, l2⟩ := hl
      obtain ⟨m1, m2⟩ := hm
      have ex : (w - l) * (w - l) - x4 - x3 = (w - m) * (w - m) - x1 - x5 := by grind
      have ey : (w - l) * (x4 - ((w - l) * (w - l) - x4 - x3)) - y4 = (w - m) * (x1 - ((w - m) * (w - m) - x1 - x5)) - y1 := by
        obtain ⟨s1, s2⟩ := u1
        obtain ⟨t1, t2⟩ := u2
        grind
      rw [ey, ex]
end
end Ec
set_option Elab.async false
set_option linter.all false
set_option maxHeartbeats 1000000
/-! Ecn: points of a curve as a group, multiples, other forms of doubling and adding, stretching. -/
namespace Ec
open Lean.Grind
structure Cur (F : Type) [Field F] where
  a : F
  b : F
  h2 : (2 : F) ≠ 0
  ns : 4 * a * a * a + 27 * b * b ≠ 0
section
variable {F : Type} [Field F] [DecidableEq F] (C : Cur F)
/-- the points of C -/
def G : Type := { P : Pt F // On C.a C.b P }
variable {C}
theorem G.ext {P Q : G C} (h : P.1 = Q.1) : P = Q := Subtype.ext h
noncomputable instance : Add (G C) := ⟨fun P Q => ⟨add C.a P.1 Q.1, on_add C.h2 P.2 Q.2⟩⟩
instance : Zero (G C) := ⟨⟨none, trivial⟩⟩
instance : Neg (G C) := ⟨fun P => ⟨neg P.1, on_neg P.2⟩⟩
instance : DecidableEq (G C) := fun P Q => if h : P.1 = Q.1 then .isTrue (G.ext h) else .isFalse fun e => h (by rw [e])
theorem g_add (P Q : G C) : (P + Q).1 = add C.a P.1 Q.1 := rfl
theorem g_neg (P : G C) : (-P).1 = neg P.1 := rfl
theorem g_zero : (0 : G C).1 = none := rfl
theorem g_zero_iff {P : G C} : P = 0 ↔ P.1 = none := ⟨fun h => by rw [h]; rfl, fun h => G.ext h⟩
theorem gadd_zero (P : G C) : P + 0 = P := G.ext (add_zero _)
theorem gzero_add (P : G C) : 0 + P = P := G.ext rfl
theorem gadd_comm (P Q : G C) : P + Q = Q + P := G.ext (add_comm C.h2 P.2 Q.2)
theorem gadd_assoc (P Q R : G C) : P + Q + R = P + (Q + R) := G.ext (add_assoc C.h2 C.ns P.2 Q.2 R.2)
theorem gadd_neg (P : G C) : P + -P = 0 := G.ext (add_neg _)
theorem gneg_add (P : G C) : -P + P = 0 := by rw [gadd_comm, gadd_neg]
theorem gadd_cancel {P Q R : G C} (h : P + Q = P + R) : Q = R := by
  have : -P + (P + Q) = -P + (P + R) := by rw [h]
  rwa [← gadd_assoc, ← gadd_assoc, gneg_add, gzero_add, gzero_add] at this
theorem gneg_eq {P Q : G C} (h : P + Q = 0) : Q = -P := gadd_cancel (P := P) (by rw [h, gadd_neg])
theorem gneg_neg (P : G C) : - -P = P := G.ext (neg_neg _)
theorem gneg_dist (P Q : G C) : -(P + Q) = -P + -Q := G.ext (neg_add C.h2 P.2 Q.2)
theorem gneg_zero : -(0 : G C) = 0 := rfl
theorem gadd_left_comm (P Q R : G C) : P + (Q + R) = Q + (P + R) := by rw [← gadd_assoc, gadd_comm P Q, gadd_assoc]
/-- n times a point -/
noncomputable def nm : Nat → G C → G C
  | 0, _ => 0
  | n + 1, P => nm n P + P
theorem nm_zero (P : G C) : nm 0 P = 0 := rfl
theorem nm_succ (n : Nat) (P : G C) : nm (n + 1) P = nm n P + P := rfl
theorem nm_one (P : G C) : nm 1 P = P := gzero_add P
theorem nm_two (P : G C) : nm 2 P = P + P := by rw [nm_succ, nm_one]
theorem nm_add (m n : Nat) (P : G C) : nm (m + n) P = nm m P + nm n P := by
  induction n with
  | zero => exact (gadd_zero _).symm
  | succ n ih => rw [Nat.add_succ, nm_succ, ih, nm_succ, gadd_assoc]
theorem nm_mul (m n : Nat) (P : G C) : nm (m * n) P = nm m (nm n P) := by
  induction m with
  | zero => rw [Nat.zero_mul]; rfl
  | succ m ih => rw [Nat.succ_mul, nm_add, ih, nm_succ]
theorem nm_z (n : Nat) : nm n (0 : G C) = 0 := by
  induction n with
  | zero => rfl
  | succ n ih => rw [nm_succ, ih, gadd_zero]
theorem nm_dist (n : Nat) (P Q : G C) : nm n (P + Q) = nm n P + nm n Q := by
  induction n with
  | zero => rfl
  | succ n ih =>
    rw [nm_succ, nm_succ, nm_succ, ih, gadd_assoc, gadd_assoc]
    congr 1
    rw [gadd_left_comm]
theorem nm_neg (n : Nat) (P : G C) : nm n (-P) = -nm n P := by
  induction n with
  | zero => rfl
  | succ n ih => rw [nm_succ, nm_succ, ih, gneg_dist]
theorem nm_comm (m n : Nat) (P : G C) : nm m (nm n P) = nm n (nm m P) := by rw [← nm_mul, Nat.mul_comm, nm_mul]
theorem nm_mod {n : Nat} {P : G C} (h : nm n P = 0) (k : Nat) : nm (k % n) P = nm k P := by
  have e : nm (n * (k / n) + k % n) P = nm k P := congrArg (nm · P) (Nat.div_add_mod k n)
  rw [nm_add, Nat.mul_comm, nm_mul, h, nm_z, gzero_add] at e
  exact e
/-- congruent multipliers -/
theorem nm_cong {n : Nat} {P : G C} (h : nm n P = 0) {j k : Nat} (e : j % n = k % n) : nm j P = nm k P := by rw [← nm_mod h j, e, nm_mod h]
/-- a prime order: k P = 0 just for the multiples -/
theorem nm_prime {n : Nat} {P : G C} (hn : Pr n) (h : nm n P = 0) (h0 : P ≠ 0) {k : Nat} (hk : nm k P = 0) : n ∣ k := by
  have key : ∀ r, 0 < r → r < n → nm r P ≠ 0 := by
    intro r
    induction r using Nat.strongRecOn with
    | _ r ih =>
      intro r0 r1 hz
      by_cases e : r = 1
      · rw [e, nm_one] at hz; exact h0 hz
      · have h1 : nm (n % r) P = 0 := by rw [nm_mod hz, h]
        have : n % r ≠ 0 := by
          intro z
          rcases hn.2 r (Nat.dvd_of_mod_eq_zero z) with q | q <;> omega
        have lt : n % r < r := Nat.mod_lt _ r0
        exact ih (n % r) lt (by omega) (by omega) h1
  have hm : nm (k % n) P = 0 := by rw [nm_mod h, hk]
  by_cases z : k % n = 0
  · exact Nat.dvd_of_mod_eq_zero z
  · exact absurd hm (key _ (by omega) (Nat.mod_lt _ (by have := hn.1; omega)))
theorem nm_inj {n : Nat} {P : G C} (hn : Pr n) (h : nm n P = 0) (h0 : P ≠ 0) {j k : Nat} (hj : j < n) (hk : k < n) (e : nm j P = nm k P) : j = k := by
  have main : ∀ j k, j ≤ k → k < n → nm j P = nm k P → j = k := by
    intro j k hle hk e
    have : nm (k - j) P = 0 := by
      have q : nm (j + (k - j)) P = nm j P + 0 := by rw [gadd_zero, Nat.add_sub_cancel' hle, e]
      rw [nm_add] at q
      exact gadd_cancel q
    have d := nm_prime hn h h0 this
    by_cases z : k - j = 0
    · omega
    · have := Nat.le_of_dvd (by omega) d
      omega
  rcases Nat.le_total j k with q | q
  · exact main j k q hk e
  · exact (main k j q hj e.symm).symm
/-! ### weights: (x / z², y / z³) -/
def Jr (X Y Z : F) (P : Pt F) : Prop := (Z = 0 ∧ P = none) ∨ (Z ≠ 0 ∧ ∃ x y, P = some (x, y) ∧ X = x * Z * Z ∧ Y = y * Z * Z * Z)
theorem jr_twice {X Y Z : F} {P : G C} (h : Jr X Y Z P.1) :
    Jr ((3 * X * X + C.a * Z * Z * Z * Z) * (3 * X * X + C.a * Z * Z * Z * Z) - 2 * (4 * X * (Y * Y)))
      ((3 * X * X + C.a * Z * Z * Z * Z) * (4 * X * (Y * Y) - ((3 * X * X + C.a * Z * Z * Z * Z) * (3 * X * X + C.a * Z * Z * Z * Z) - 2 * (4 * X * (Y * Y)))) - 8 * (Y * Y) * (Y * Y)) (2 * Y * Z) (P + P).1 := by
  rw [g_add]
  rcases h with ⟨z, e⟩ | ⟨z, x, y, e, ex, ey⟩
  · rw [e]
    exact .inl ⟨by rw [z, Semiring.mul_zero], rfl⟩
  · have hP := P.2
    rw [e] at hP ⊢
    have h2 := C.h2
    by_cases hy : y = 0
    · refine .inl ⟨by rw [ey, hy]; grind, ?_⟩
      exact add_opp rfl (by grind)
    · have n : ¬ (x = x ∧ y + y = 0) := by grind
      have s := slp_ok C.h2 hP hP n
      have q := add_eq C.h2 hP hP n s
      obtain ⟨_, s2⟩ := s
      generalize slp C.a x y x y = l at *
      refine .inr ⟨by grind, _, _, q, ?_, ?_⟩ <;> grind
theorem jr_beside {X Y Z x2 y2 : F} {P Q : G C} (h : Jr X Y Z P.1) (hQ : Q.1 = some (x2, y2)) (hz : Z ≠ 0) (hf : x2 * (Z * Z) - X ≠ 0) :
    Jr ((y2 * (Z * Z) * Z - Y) * (y2 * (Z * Z) * Z - Y) - (x2 * (Z * Z) - X) * (x2 * (Z * Z) - X) * (x2 * (Z * Z) - X) - 2 * (X * (x2 * (Z * Z) - X) * (x2 * (Z * Z) - X)))
      ((y2 * (Z * Z) * Z - Y) * (X * (x2 * (Z * Z) - X) * (x2 * (Z * Z) - X) - ((y2 * (Z * Z) * Z - Y) * (y2 * (Z * Z) * Z - Y) - (x2 * (Z * Z) - X) * (x2 * (Z * Z) - X) * (x2 * (Z * Z) - X) - 2 * (X * (x2 * (Z * Z) - X) * (x2 * (Z * Z) - X)))) - Y * ((x2 * (Z * Z) - X) * (x2 * (Z * Z) - X) * (x2 * (Z * Z) - X))) (Z * (x2 * (Z * Z) - X)) (P + Q).1 := by
  rw [g_add]
  rcases h with ⟨z, e⟩ | ⟨z, x, y, e, ex, ey⟩
  · exact absurd z hz
  · have hP := P.2
    have hq := Q.2
    rw [e] at hP ⊢
    rw [hQ] at hq ⊢
    have hx : x ≠ x2 := by grind
    have n : ¬ (x = x2 ∧ y + y2 = 0) := fun q => hx q.1
    have s := slp_ok C.h2 hP hq n
    have q := add_eq C.h2 hP hq n s
    obtain ⟨s1, _⟩ := s
    generalize slp C.a x y x2 y2 = l at *
    refine .inr ⟨by grind, _, _, q, ?_, ?_⟩ <;> grind
theorem jr_same {X Y Z x2 y2 : F} {P Q : G C} (h : Jr X Y Z P.1) (hQ : Q.1 = some (x2, y2)) (hz : Z ≠ 0) (hf : x2 * (Z * Z) - X = 0) (hr : y2 * (Z * Z) * Z - Y = 0) : P + Q = P + P := by
  rcases h with ⟨z, e⟩ | ⟨z, x, y, e, ex, ey⟩
  · exact absurd z hz
  · have : P = Q := G.ext (by
      rw [e, hQ]
      congr 2 <;> grind)
    rw [this]
theorem jr_opp {X Y Z x2 y2 : F} {P Q : G C} (h : Jr X Y Z P.1) (hQ : Q.1 = some (x2, y2)) (hz : Z ≠ 0) (hf : x2 * (Z * Z) - X = 0) (hr : y2 * (Z * Z) * Z - Y ≠ 0) : P + Q = 0 := by
  rcases h with ⟨z, e⟩ | ⟨z, x, y, e, ex, ey⟩
  · exact absurd z hz
  · have hP := P.2
    have hq := Q.2
    refine G.ext ?_
    rw [g_add, e, hQ]
    rw [e] at hP
    rw [hQ] at hq
    have hP0 : y * y = x * x * x + C.a * x + C.b := hP
    have hq0 : y2 * y2 = x2 * x2 * x2 + C.a * x2 + C.b := hq
    have exx : x = x2 := by grind
    exact add_opp exx (by
      subst exx
      have : y - y2 ≠ 0 := by grind
      grind)
/-! ### stretching -/
def stp (u : F) : Pt F → Pt F
  | none => none
  | some (x, y) => some (x * u * u, y * u * u * u)
def stc (C : Cur F) (u : F) (hu : u ≠ 0) : Cur F := ⟨C.a * u * u * u * u, C.b * u * u * u * u * u * u, C.h2, by
  have := C.ns
  have e : 4 * (C.a * u * u * u * u) * (C.a * u * u * u * u) * (C.a * u * u * u * u) + 27 * (C.b * u * u * u * u * u * u) * (C.b * u * u * u * u * u * u) = (4 * C.a * C.a * C.a + 27 * C.b * C.b) * (u * u * u * u * u * u * u * u * u * u * u * u) := by grind
  rw [e]
  intro z
  have : u * u * u * u * u * u * u * u * u * u * u * u ≠ 0 := by grind
  grind⟩
def stg {u : F} (hu : u ≠ 0) (P : G C) : G (stc C u hu) := ⟨stp u P.1, by
  obtain ⟨P, h⟩ := P
  match P with
  | none => trivial
  | some (x, y) =>
    have h0 : y * y = x * x * x + C.a * x + C.b := h
    show (y * u * u * u) * (y * u * u * u) = (x * u * u) * (x * u * u) * (x * u * u) + (C.a * u * u * u * u) * (x * u * u) + C.b * u * u * u * u * u * u
    grind⟩
theorem stg_add {u : F} (hu : u ≠ 0) (P Q : G C) : stg hu (P + Q) = stg hu P + stg hu Q := by
  obtain ⟨P, hP⟩ := P
  obtain ⟨Q, hQ⟩ := Q
  refine G.ext ?_
  show stp u (add C.a P Q) = add (C.a * u * u * u * u) (stp u P) (stp u Q)
  have hP' := (stg hu (⟨P, hP⟩ : G C)).2
  have hQ' := (stg hu (⟨Q, hQ⟩ : G C)).2
  match P, Q with
  | none, Q => rfl
  | some _, none => rfl
  | some (x1, y1), some (x2, y2) =>
    by_cases n : x1 = x2 ∧ y1 + y2 = 0
    · rw [add_opp n.1 n.2]
      show none = add _ (some (x1 * u * u, y1 * u * u * u)) (some (x2 * u * u, y2 * u * u * u))
      rw [add_opp (by rw [n.1]) (by have := n.2; grind)]
    · have s := slp_ok C.h2 hP hQ n
      rw [add_eq C.h2 hP hQ n s]
      obtain ⟨s1, s2⟩ := s
      generalize slp C.a x1 y1 x2 y2 = l at *
      have n' : ¬ (x1 * u * u = x2 * u * u ∧ y1 * u * u * u + y2 * u * u * u = 0) := by grind
      have := add_eq C.h2 (a := C.a * u * u * u * u) (b := C.b * u * u * u * u * u * u) (l := l * u) hP' hQ' n' ⟨by grind, by grind⟩
      show some _ = add _ (some (x1 * u * u, y1 * u * u * u)) (some (x2 * u * u, y2 * u * u * u))
      rw [this]
      congr 2 <;> grind
theorem stg_nm {u : F} (hu : u ≠ 0) (n : Nat) (P : G C) : stg hu (nm n P) = nm n (stg hu P) := by
  induction n with
  | zero => rfl
  | succ n ih => rw [nm_succ, nm_succ, stg_add, ih]
theorem stg_zero {u : F} (hu : u ≠ 0) {P : G C} : stg hu P = 0 ↔ P = 0 := by
  constructor
  · intro h
    have h1 : stp u P.1 = none := congrArg Subtype.val h
    refine G.ext ?_
    obtain ⟨P, hP⟩ := P
    match P with
    | none => rfl
    | some (x, y) => cases h1
  · intro h; rw [h]; rfl
end
end Ec
set_option Elab.async false
set_option linter.all false
set_option maxHeartbeats 1000000
/-! Ma: counting points: pigeonholes, Fermat, the order of a group divides. -/
namespace Ec
open Lean.Grind
/-- among more values than the list holds two are equal -/
theorem pigeon {α : Type} (L : List α) (f : Nat → α) (h : ∀ i, i ≤ L.length → f i ∈ L) : ∃ i j, i < j ∧ j ≤ L.length ∧ f i = f j := by
  classical
  refine Classical.byContradiction fun n => ?_
  have inj : ∀ i j, i < j → j ≤ L.length → f i ≠ f j := fun i j h1 h2 e => n ⟨i, j, h1, h2, e⟩
  have nd : ((List.range (L.length + 1)).map f).Nodup := by
    refine List.pairwise_map.mpr ?_
    refine List.Pairwise.imp_of_mem ?_ List.pairwise_lt_range
    intro a b ha hb hab
    exact inj a b hab (by have := List.mem_range.mp hb; omega)
  have sub : ((List.range (L.length + 1)).map f) ⊆ L := by
    intro x hx
    obtain ⟨i, hi, rfl⟩ := List.mem_map.mp hx
    exact h i (by have := List.mem_range.mp hi; omega)
  have := nd.length_le_of_subset sub
  rw [List.length_map, List.length_range] at this
  omega
/-- a list that holds an image of every point bounds the orders -/
theorem ord_by {F : Type} [Field F] [DecidableEq F] {C : Cur F} {α : Type} (L : List α) (c : G C → α) (hi : ∀ P Q, c P = c Q → P = Q) (hc : ∀ P, c P ∈ L) (X : G C) : ∃ m, 1 ≤ m ∧ m ≤ L.length ∧ nm m X = 0 := by
  obtain ⟨i, j, h1, h2, e⟩ := pigeon L (fun i => c (nm i X)) (fun i _ => hc _)
  refine ⟨j - i, by omega, by omega, ?_⟩
  have q : nm (i + (j - i)) X = nm i X + 0 := by rw [gadd_zero, Nat.add_sub_cancel' (by omega), hi _ _ e]
  rw [nm_add] at q
  exact gadd_cancel q
/-! the sum of a list -/
noncomputable def gs {F : Type} [Field F] [DecidableEq F] {C : Cur F} (l : List (G C)) : G C := l.foldr (· + ·) 0
theorem gs_perm {F : Type} [Field F] [DecidableEq F] {C : Cur F} {l m : List (G C)} (h : l.Perm m) : gs l = gs m := List.Perm.foldr_eq' h (fun x _ y _ z => gadd_left_comm y x z) 0
theorem gs_map {F : Type} [Field F] [DecidableEq F] {C : Cur F} (X : G C) (l : List (G C)) : gs (l.map (X + ·)) = nm l.length X + gs l := by
  induction l with
  | nil => exact (gadd_zero _).symm
  | cons a l ih =>
    show (X + a) + gs (l.map (X + ·)) = nm (l.length + 1) X + (a + gs l)
    rw [ih, nm_succ]
    have e : nm l.length X + X + (a + gs l) = X + (nm l.length X + (a + gs l)) := by rw [gadd_comm (nm l.length X) X, gadd_assoc]
    rw [e, gadd_assoc, gadd_left_comm a]
theorem lagrange {F : Type} [Field F] [DecidableEq F] {C : Cur F} (L : List (G C)) (nd : L.Nodup) (all : ∀ P, P ∈ L) (X : G C) : nm L.length X = 0 := by
  have nd2 : (L.map (X + ·)).Nodup := by
    refine List.pairwise_map.mpr (nd.imp ?_)
    intro a b hab e
    exact hab (gadd_cancel e)
  have pm : (L.map (X + ·)).Perm L := (List.perm_ext_iff_of_nodup nd2 nd).mpr fun P => ⟨fun _ => all P, fun _ => List.mem_map.mpr ⟨-X + P, all _, by rw [← gadd_assoc, gadd_neg, gzero_add]⟩⟩
  have e := gs_map X L
  rw [gs_perm pm] at e
  have e2 : gs L + 0 = gs L + nm L.length X := by rw [gadd_zero, gadd_comm]; exact e
  exact (gadd_cancel e2).symm
/-! Fermat -/
section
variable {p : Nat} [hp : Prm p]
/-- 1 .. p - 1 -/
def zl (p : Nat) [Prm p] : List (Zp p) := (List.range (p - 1)).map fun (i : Nat) => fi p ((i : Int) + 1)
theorem fi_inj {x y : Int} (hx : 0 ≤ x) (hx' : x < p) (hy : 0 ≤ y) (hy' : y < p) (h : fi p x = fi p y) : x = y := by
  have e : x % p = y % p := congrArg Zp.v h
  rwa [Int.emod_eq_of_lt hx hx', Int.emod_eq_of_lt hy hy'] at e
theorem zv_ne {a : Zp p} : a ≠ 0 ↔ 1 ≤ a.v := by
  have z0 : (0 : Zp p).v = 0 := by show ((0 : Nat) : Int) % p = 0; simp
  constructor
  · intro h
    have := a.lo
    rcases Int.lt_or_eq_of_le this with q | q
    · omega
    · exact absurd (Zp.ext (by rw [z0, q])) h
  · intro h e
    rw [e, z0] at h
    omega
theorem zl_mem {a : Zp p} : a ∈ zl p ↔ a ≠ 0 := by
  have hp2 := hp.pr.1
  rw [zv_ne]
  constructor
  · intro h
    obtain ⟨i, hi, rfl⟩ := List.mem_map.mp h
    have := List.mem_range.mp hi
    show 1 ≤ ((i : Int) + 1) % p
    rw [Int.emod_eq_of_lt (by omega) (by omega)]
    omega
  · intro h
    refine List.mem_map.mpr ⟨(a.v - 1).toNat, List.mem_range.mpr (by have := a.hi; omega), ?_⟩
    have : (((a.v - 1).toNat : Nat) : Int) + 1 = a.v := by omega
    rw [this, fi_val]
theorem zl_nd : (zl p).Nodup := by
  have hp2 := hp.pr.1
  refine List.pairwise_map.mpr ?_
  refine List.Pairwise.imp_of_mem ?_ List.pairwise_lt_range
  intro a b ha hb hab e
  have := List.mem_range.mp ha
  have := List.mem_range.mp hb
  have := fi_inj (by omega) (by omega) (by omega) (by omega) e
  omega
theorem zl_len : (zl p).length = p - 1 := by rw [zl, List.length_map, List.length_range]
def zpd (l : List (Zp p)) : Zp p := l.foldr (· * ·) 1
theorem zpd_perm {l m : List (Zp p)} (h : l.Perm m) : zpd l = zpd m := List.Perm.foldr_eq' h (fun x _ y _ z => by grind) 1
theorem zpd_map (x : Zp p) (l : List (Zp p)) : zpd (l.map (x * ·)) = x ^ l.length * zpd l := by
  induction l with
  | nil => show (1 : Zp p) = x ^ 0 * 1; rw [zp_pow_zero]; grind
  | cons a l ih =>
    show (x * a) * zpd (l.map (x * ·)) = x ^ (l.length + 1) * (a * zpd l)
    rw [ih, zp_pow_succ]
    generalize x ^ l.length = u
    grind
theorem zpd_ne {l : List (Zp p)} (h : ∀ a ∈ l, a ≠ 0) : zpd l ≠ 0 := by
  induction l with
  | nil => exact fun e => zp_one_ne e.symm
  | cons a l ih =>
    have h1 := h a (List.mem_cons_self ..)
    have h2 := ih fun b hb => h b (List.mem_cons_of_mem _ hb)
    show a * zpd l ≠ 0
    grind
theorem fermat {x : Zp p} (hx : x ≠ 0) : x ^ (p - 1) = 1 := by
  have nd2 : ((zl p).map (x * ·)).Nodup := by
    refine List.pairwise_map.mpr (zl_nd.imp ?_)
    intro a b hab e
    exact hab (by grind)
  have pm : ((zl p).map (x * ·)).Perm (zl p) := (List.perm_ext_iff_of_nodup nd2 zl_nd).mpr fun a => by
    rw [zl_mem]
    constructor
    · intro h
      obtain ⟨b, hb, rfl⟩ := List.mem_map.mp h
      have := zl_mem.mp hb
      grind
    · intro h
      refine List.mem_map.mpr ⟨x⁻¹ * a, zl_mem.mpr ?_, ?_⟩
      · have := zp_mul_inv hx
        intro e
        grind
      · have := zp_mul_inv hx
        grind
  have e := zpd_map x (zl p)
  rw [zpd_perm pm, zl_len] at e
  have n := zpd_ne (l := zl p) fun a h => zl_mem.mp h
  generalize zpd (zl p) = u at *
  generalize x ^ (p - 1) = v at *
  grind
theorem zpow_add (x : Zp p) (m n : Nat) : x ^ (m + n) = x ^ m * x ^ n := by
  induction n with
  | zero => rw [zp_pow_zero]; show x ^ m = _; grind
  | succ n ih => rw [Nat.add_succ, zp_pow_succ, ih, zp_pow_succ]; grind
theorem zpow_mul (x : Zp p) (m n : Nat) : x ^ (m * n) = (x ^ m) ^ n := by
  induction n with
  | zero => rw [zp_pow_zero, Nat.mul_zero, zp_pow_zero]
  | succ n ih => rw [Nat.mul_succ, zpow_add, ih, zp_pow_succ]
theorem zone_pow (n : Nat) : (1 : Zp p) ^ n = 1 := by
  induction n with
  | zero => exact zp_pow_zero _
  | succ n ih => rw [zp_pow_succ, ih]; grind
theorem zzero_pow {n : Nat} (h : 0 < n) : (0 : Zp p) ^ n = 0 := by
  obtain ⟨k, rfl⟩ : ∃ k, n = k + 1 := ⟨n - 1, by omega⟩
  rw [zp_pow_succ]; grind
theorem fermat2 (x : Zp p) : x ^ p = x := by
  have hp2 := hp.pr.1
  by_cases h : x = 0
  · rw [h, zzero_pow (by omega)]
  · have : x ^ (p - 1 + 1) = x := by rw [zp_pow_succ, fermat h]; grind
    rwa [Nat.sub_add_cancel (by omega)] at this
end
end Ec
set_option Elab.async false
set_option linter.all false
set_option maxHeartbeats 1000000
/-! Mb: curves with p + 1 points. -/
namespace Ec
open Lean.Grind
section
variable {p : Nat} [hp : Prm p]
def za (p : Nat) [Prm p] : List (Zp p) := (List.range p).map fun (i : Nat) => fi p (i : Int)
theorem za_mem (a : Zp p) : a ∈ za p := by
  refine List.mem_map.mpr ⟨a.v.toNat, List.mem_range.mpr (by have := a.hi; have := a.lo; omega), ?_⟩
  rw [Int.toNat_of_nonneg a.lo, fi_val]
theorem za_nd : (za p).Nodup := by
  refine List.pairwise_map.mpr ?_
  refine List.Pairwise.imp_of_mem ?_ List.pairwise_lt_range
  intro a b ha hb hab e
  have := List.mem_range.mp ha
  have := List.mem_range.mp hb
  have := fi_inj (by omega) (by omega) (by omega) (by omega) e
  omega
theorem za_len : (za p).length = p := by rw [za, List.length_map, List.length_range]
theorem by_bij {C : Cur (Zp p)} (f : Zp p → G C) (h0 : ∀ t, f t ≠ 0) (hi : ∀ s t, f s = f t → s = t) (hs : ∀ P : G C, P ≠ 0 → ∃ t, f t = P) (X : G C) : nm (p + 1) X = 0 := by
  have nd : (0 :: (za p).map f : List (G C)).Nodup := by
    refine List.nodup_cons.mpr ⟨?_, List.pairwise_map.mpr (za_nd.imp fun hab e => hab (hi _ _ e))⟩
    intro h
    obtain ⟨t, _, e⟩ := List.mem_map.mp h
    exact h0 t e
  have all : ∀ P, P ∈ (0 :: (za p).map f : List (G C)) := by
    intro P
    by_cases h : P = 0
    · rw [h]; exact List.mem_cons_self ..
    · obtain ⟨t, rfl⟩ := hs P h
      exact List.mem_cons_of_mem _ (List.mem_map.mpr ⟨t, za_mem t, rfl⟩)
  have := lagrange _ nd all X
  rwa [List.length_cons, List.length_map, za_len] at this
/-- the cube root -/
def cb (t : Zp p) : Zp p := t ^ ((2 * p - 1) / 3)
theorem pow_2p (x : Zp p) : x ^ (2 * p - 1) = x := by
  have hp2 := hp.pr.1
  have e : 2 * p - 1 = p + (p - 1) := by omega
  rw [e, zpow_add, fermat2]
  by_cases h : x = 0
  · rw [h]; grind
  · rw [fermat h]; grind
theorem zcube (x : Zp p) : x * x * x = x ^ 3 := by
  have e1 : x ^ (1 + 1 + 1) = x * x * x := by rw [zp_pow_succ, zp_pow_succ]; have : x ^ 1 = x ^ 0 * x := zp_pow_succ x 0; rw [this, zp_pow_zero]; grind
  exact e1.symm
theorem zsq (x : Zp p) : x * x = x ^ 2 := by
  have e1 : x ^ (1 + 1) = x * x := by rw [zp_pow_succ]; have : x ^ 1 = x ^ 0 * x := zp_pow_succ x 0; rw [this, zp_pow_zero]; grind
  exact e1.symm
theorem cb_cube (h : p % 3 = 2) (t : Zp p) : cb t * cb t * cb t = t := by
  rw [zcube, cb, ← zpow_mul]
  have : (2 * p - 1) / 3 * 3 = 2 * p - 1 := by omega
  rw [this, pow_2p]
theorem cb_of (h : p % 3 = 2) (x : Zp p) : cb (x * x * x) = x := by
  rw [zcube, cb, ← zpow_mul]
  have : 3 * ((2 * p - 1) / 3) = 2 * p - 1 := by omega
  rw [this, pow_2p]
theorem super_a (h : p % 3 = 2) {C : Cur (Zp p)} (ha : C.a = 0) (X : G C) : nm (p + 1) X = 0 := by
  have on : ∀ t : Zp p, On C.a C.b (some (cb (t * t - C.b), t)) := by
    intro t
    show t * t = _
    rw [cb_cube h, ha]
    grind
  refine by_bij (fun t => ⟨some (cb (t * t - C.b), t), on t⟩) ?_ ?_ ?_ X
  · intro t e
    have := congrArg Subtype.val e
    cases this
  · intro s t e
    have := congrArg Subtype.val e
    injection this with e1
    exact (Prod.mk.inj e1).2
  · intro P hP
    obtain ⟨P, hO⟩ := P
    match P, hO, hP with
    | none, _, n => exact absurd rfl n
    | some (x, y), hO, _ =>
      refine ⟨y, G.ext ?_⟩
      have h0 : y * y = x * x * x + C.a * x + C.b := hO
      show some (cb (y * y - C.b), y) = some (x, y)
      have : y * y - C.b = x * x * x := by rw [h0, ha]; grind
      rw [this, cb_of h]
/-- a root of t or of - t -/
def sq (t : Zp p) : Zp p := t ^ ((p + 1) / 4)
theorem sq_sq (h : p % 4 = 3) (t : Zp p) : sq t * sq t = t ∨ sq t * sq t = -t := by
  have hp2 := hp.pr.1
  rw [zsq, sq, ← zpow_mul]
  by_cases ht : t = 0
  · left
    rw [ht, zzero_pow (by omega)]
  · have e : (p + 1) / 4 * 2 = (p - 1) / 2 + 1 := by omega
    rw [e, zp_pow_succ]
    have f : t ^ ((p - 1) / 2) * t ^ ((p - 1) / 2) = 1 := by
      rw [← zpow_add]
      have : (p - 1) / 2 + (p - 1) / 2 = p - 1 := by omega
      rw [this, fermat ht]
    generalize t ^ ((p - 1) / 2) = u at *
    have : (u - 1) * (u + 1) = 0 := by grind
    by_cases hu : u = 1
    · left; grind
    · right; grind
theorem sq_even (h : p % 4 = 3) (y : Zp p) : sq (y * y) * sq (y * y) = y * y := by
  rw [zsq (sq (y * y)), sq, ← zpow_mul]
  rw [zsq y, ← zpow_mul]
  have : 2 * ((p + 1) / 4 * 2) = p + 1 := by omega
  rw [this, zp_pow_succ, fermat2, zsq]
theorem sq_neg (h : p % 4 = 3) (t : Zp p) : sq (-t) * sq (-t) = sq t * sq t := by
  rw [zsq, zsq, sq, sq, ← zpow_mul, ← zpow_mul]
  have : (p + 1) / 4 * 2 = 2 * ((p + 1) / 4) := by omega
  rw [this, zpow_mul, zpow_mul]
  congr 1
  rw [← zsq, ← zsq]
  grind
theorem self_neg (h2 : (2 : Zp p) ≠ 0) {u : Zp p} (h : u = -u) : u = 0 := by
  have : 2 * u = 0 := by grind
  grind
theorem neg_self (u : Zp p) : - -u = u := by grind
theorem neg_inj {u v : Zp p} (h : -u = -v) : u = v := by rw [← neg_self u, h, neg_self]
theorem neg_zer : -(0 : Zp p) = 0 := by grind
theorem neg_zero_of {u : Zp p} (h : -u = 0) : u = 0 := by rw [← neg_self u, h, neg_zer]
theorem sq_zero {u : Zp p} (h : u * u = 0) : u = 0 := by grind
theorem two_roots {u y : Zp p} (h : u * u = y * y) (n : y ≠ u) : y = -u := by
  have : (y - u) * (y + u) = 0 := by grind
  grind
def fb (a t : Zp p) : Zp p := t * t * t + a * t
theorem fb_neg (a t : Zp p) : fb a (-t) = - fb a t := by
  show (-t) * (-t) * (-t) + a * (-t) = -(t * t * t + a * t)
  grind
theorem fb_on {C : Cur (Zp p)} (hb : C.b = 0) (t : Zp p) : t * t * t + C.a * t + C.b = fb C.a t := by
  rw [hb]; show _ = t * t * t + C.a * t; grind
theorem zmul0 : (0 : Zp p) * 0 = 0 := by grind
theorem super_b (h : p % 4 = 3) {C : Cur (Zp p)} (hb : C.b = 0) (X : G C) : nm (p + 1) X = 0 := by
  have hz := C.h2
  have fn := fb_neg C.a
  have fo := fb_on hb
  generalize fb C.a = f at fn fo
  have key : ∀ t, ¬ sq (f t) * sq (f t) = f t → sq (f (-t)) * sq (f (-t)) = f (-t) ∧ f t ≠ 0 := by
    intro t n
    rw [fn, sq_neg h]
    rcases sq_sq h (f t) with q | q
    · exact absurd q n
    · refine ⟨q, fun z => n ?_⟩
      rw [q, z]; exact neg_zer
  have on1 : ∀ t, sq (f t) * sq (f t) = f t → On C.a C.b (some (t, sq (f t))) := by
    intro t e
    show sq (f t) * sq (f t) = t * t * t + C.a * t + C.b
    rw [e, fo]
  have on2 : ∀ t, ¬ sq (f t) * sq (f t) = f t → On C.a C.b (some (-t, - sq (f (-t)))) := by
    intro t n
    have e := (key t n).1
    have := on1 (-t) e
    exact on_neg this
  have ex : ∀ t, ∃ P : G C, (sq (f t) * sq (f t) = f t → P.1 = some (t, sq (f t))) ∧ (¬ sq (f t) * sq (f t) = f t → P.1 = some (-t, - sq (f (-t)))) := by
    intro t
    by_cases e : sq (f t) * sq (f t) = f t
    · exact ⟨⟨_, on1 t e⟩, fun _ => rfl, fun n => absurd e n⟩
    · exact ⟨⟨_, on2 t e⟩, fun n => absurd n e, fun _ => rfl⟩
  obtain ⟨g, gg⟩ := Classical.axiomOfChoice ex
  have g1 : ∀ t, sq (f t) * sq (f t) = f t → (g t).1 = some (t, sq (f t)) := fun t => (gg t).1
  have g2 : ∀ t, ¬ sq (f t) * sq (f t) = f t → (g t).1 = some (-t, - sq (f (-t))) := fun t => (gg t).2
  have mix : ∀ s t, sq (f s) * sq (f s) = f s → ¬ sq (f t) * sq (f t) = f t → g s ≠ g t := by
    intro s t hs ht e
    have e1 := congrArg Subtype.val e
    rw [g1 s hs, g2 t ht] at e1
    injection e1 with e2
    obtain ⟨e3, e4⟩ := Prod.mk.inj e2
    rw [← e3] at e4
    have z : sq (f s) = 0 := self_neg hz e4
    have k := (key t ht).2
    have : f s = 0 := by rw [← hs, z]; exact zmul0
    have ft := fn t
    rw [← e3, this] at ft
    exact k (neg_zero_of ft.symm)
  refine by_bij g ?_ ?_ ?_ X
  · intro t e
    have e1 := congrArg Subtype.val e
    by_cases ht : sq (f t) * sq (f t) = f t
    · rw [g1 t ht] at e1; cases e1
    · rw [g2 t ht] at e1; cases e1
  · intro s t e
    by_cases hs : sq (f s) * sq (f s) = f s
    · by_cases ht : sq (f t) * sq (f t) = f t
      · have e1 := congrArg Subtype.val e
        rw [g1 s hs, g1 t ht] at e1
        injection e1 with e2
        exact (Prod.mk.inj e2).1
      · exact absurd e (mix s t hs ht)
    · by_cases ht : sq (f t) * sq (f t) = f t
      · exact absurd e.symm (mix t s ht hs)
      · have e1 := congrArg Subtype.val e
        rw [g2 s hs, g2 t ht] at e1
        injection e1 with e2
        exact neg_inj (Prod.mk.inj e2).1
  · intro P hP
    obtain ⟨P, hO⟩ := P
    match P, hO, hP with
    | none, _, n => exact absurd rfl n
    | some (x, y), hO, _ =>
      have h0 : y * y = x * x * x + C.a * x + C.b := hO
      have h1 : f x = y * y := by rw [h0, fo]
      have h2 : sq (f x) * sq (f x) = f x := by rw [h1]; exact sq_even h y
      by_cases hy : y = sq (f x)
      · exact ⟨x, G.ext (by rw [g1 x h2, ← hy])⟩
      · have h3 : y = - sq (f x) := two_roots (by rw [h2, h1]) hy
        have h4 : ¬ sq (f (-x)) * sq (f (-x)) = f (-x) := by
          rw [fn, sq_neg h, h2]
          intro z
          have z3 : f x = 0 := self_neg hz z
          have z4 : y = 0 := sq_zero (by rw [← h1, z3])
          have z5 : sq (f x) = 0 := sq_zero (by rw [h2, z3])
          exact hy (by rw [z4, z5])
        refine ⟨-x, G.ext ?_⟩
        rw [g2 _ h4]
        rw [neg_self, ← h3]
end
end Ec
set_option Elab.async false
set_option linter.all false
set_option maxHeartbeats 1000000
set_option maxRecDepth 100000
/-! Mc: orders on small curves. -/
namespace Ec
open Lean.Grind
section
variable {p : Nat} [hp : Prm p]
/-- a number for each point -/
def ptc : Pt (Zp p) → Nat
  | none => 0
  | some (x, y) => 1 + 2 * x.v.toNat + (if 2 * y.v < p then 0 else 1)
theorem zneg_v {y : Zp p} (h : y ≠ 0) : (-y).v = p - y.v := by
  have h1 := zv_ne.mp h
  have h2 := y.hi
  show (-y.v) % p = p - y.v
  have e : -y.v = (p - y.v) + p * (-1) := by omega
  rw [e, Int.add_mul_emod_self_left]
  exact Int.emod_eq_of_lt (by omega) (by omega)
theorem ptc_inj {C : Cur (Zp p)} (P Q : G C) (h : ptc P.1 = ptc Q.1) : P = Q := by
  obtain ⟨P, hP⟩ := P
  obtain ⟨Q, hQ⟩ := Q
  refine G.ext ?_
  match P, Q, hP, hQ, h with
  | none, none, _, _, _ => rfl
  | none, some (x, y), _, _, h =>
    have h0 : 0 = 1 + 2 * x.v.toNat + (if 2 * y.v < p then 0 else 1) := h
    omega
  | some (x, y), none, _, _, h =>
    have h0 : 1 + 2 * x.v.toNat + (if 2 * y.v < p then 0 else 1) = 0 := h
    omega
  | some (x, y), some (x', y'), hP, hQ, h =>
    have h0 : 1 + 2 * x.v.toNat + (if 2 * y.v < p then 0 else 1) = 1 + 2 * x'.v.toNat + (if 2 * y'.v < p then 0 else 1) := h
    have l1 := x.lo
    have l2 := x'.lo
    have ex : x = x' := Zp.ext (by
      by_cases a1 : 2 * y.v < p
      · by_cases a2 : 2 * y'.v < p
        · rw [if_pos a1, if_pos a2] at h0; omega
        · rw [if_pos a1, if_neg a2] at h0; omega
      · by_cases a2 : 2 * y'.v < p
        · rw [if_neg a1, if_pos a2] at h0; omega
        · rw [if_neg a1, if_neg a2] at h0; omega)
    subst ex
    have hP0 : y * y = x * x * x + C.a * x + C.b := hP
    have hQ0 : y' * y' = x * x * x + C.a * x + C.b := hQ
    by_cases e : y' = y
    · show some (x, y) = some (x, y')
      rw [e]
    · exfalso
      have e2 : y' = -y := two_roots (by rw [hP0, hQ0]) e
      by_cases z : y = 0
      · rw [z, neg_zer] at e2; exact e (by rw [e2, z])
      · have hv := zneg_v z
        rw [← e2] at hv
        have odd : (p : Int) % 2 = 1 := by
          have h2 := C.h2
          have hp2 := hp.pr.1
          rcases Nat.mod_two_eq_zero_or_one p with q | q
          · exfalso
            rcases hp.pr.2 2 (Nat.dvd_of_mod_eq_zero q) with r | r
            · omega
            · apply h2
              show fi p ((2 : Nat) : Int) = 0
              exact fi_zero_iff.mpr ⟨1, by omega⟩
          · omega
        by_cases a1 : 2 * y.v < p
        · rw [if_pos a1] at h0
          by_cases a2 : 2 * y'.v < p
          · omega
          · rw [if_neg a2] at h0; omega
        · rw [if_neg a1] at h0
          by_cases a2 : 2 * y'.v < p
          · rw [if_pos a2] at h0; omega
          · omega
theorem ord_2p {C : Cur (Zp p)} (X : G C) : ∃ m, 1 ≤ m ∧ m ≤ 2 * p + 1 ∧ nm m X = 0 := by
  have := ord_by (List.range (2 * p + 1)) (fun P : G C => ptc P.1) ptc_inj (fun P => by
    refine List.mem_range.mpr ?_
    obtain ⟨P, hP⟩ := P
    match P with
    | none => show 0 < _; omega
    | some (x, y) =>
      show 1 + 2 * x.v.toNat + (if 2 * y.v < p then 0 else 1) < _
      have := x.hi
      have := x.lo
      split <;> omega) X
  rwa [List.length_range] at this
/-! counting in the kernel -/
def al (f : Nat → Bool) (n : Nat) : Bool := Nat.rec true (fun i r => f i && r) n
def ey (f : Nat → Bool) (n : Nat) : Bool := Nat.rec false (fun i r => f i || r) n
def cnt (f : Nat → Bool) (n : Nat) : Nat := Nat.rec 0 (fun i r => bif f i then Nat.succ r else r) n
theorem al_ok {f : Nat → Bool} : ∀ {n : Nat}, al f n = true → ∀ i, i < n → f i = true
  | 0, _, i, h => by omega
  | n + 1, e, i, h => by
    have e' : (f n && al f n) = true := e
    rw [Bool.and_eq_true] at e'
    rcases Nat.lt_or_ge i n with q | q
    · exact al_ok e'.2 i q
    · have : i = n := by omega
      rw [this]; exact e'.1
theorem ey_ok {f : Nat → Bool} : ∀ {n : Nat}, ey f n = true → ∃ i, i < n ∧ f i = true
  | 0, e => by cases e
  | n + 1, e => by
    have e' : (f n || ey f n) = true := e
    rw [Bool.or_eq_true] at e'
    rcases e' with q | q
    · exact ⟨n, by omega, q⟩
    · obtain ⟨i, h1, h2⟩ := ey_ok q
      exact ⟨i, by omega, h2⟩
theorem cnt_len (f : Nat → Bool) : ∀ n, ((List.range n).filter f).length = cnt f n
  | 0 => rfl
  | n + 1 => by
    have e : cnt f (n + 1) = bif f n then Nat.succ (cnt f n) else cnt f n := rfl
    rw [e, List.range_succ, List.filter_append, List.length_append, cnt_len f n]
    cases h : f n
    · simp [h]
    · simp [h]
theorem two_len {α : Type} (g h : Nat → α) (l : List Nat) : (l.flatMap fun x => [g x, h x]).length = 2 * l.length := by
  induction l with
  | nil => rfl
  | cons a l ih => rw [List.flatMap_cons, List.length_append, ih]; show 2 + _ = 2 * (l.length + 1); omega
def cub (p a b x : Nat) : Nat := (x * x * x + a * x + b) % p
theorem zn (z : Zp p) : ∃ n : Nat, n < p ∧ z = fi p (n : Int) ∧ z.v = n := ⟨z.v.toNat, by have := z.hi; have := z.lo; omega, by rw [Int.toNat_of_nonneg z.lo, fi_val], (Int.toNat_of_nonneg z.lo).symm⟩
theorem fi_nat {m n : Nat} (h : fi p (m : Int) = fi p (n : Int)) : m % p = n % p := by
  have e : ((m : Int) % p) = ((n : Int) % p) := congrArg Zp.v h
  exact_mod_cast e
theorem ord_cnt {C : Cur (Zp p)} {M a b k : Nat} (hM : ∀ y, y < p → M.testBit (y * y % p) = true) (ha : C.a = fi p (a : Int)) (hb : C.b = fi p (b : Int))
    (hc : cnt (fun x => M.testBit (cub p a b x)) p ≤ k) (X : G C) : ∃ m, 1 ≤ m ∧ m ≤ 2 * k + 1 ∧ nm m X = 0 := by
  have hk := cnt_len (fun x => M.testBit (cub p a b x)) p
  have := ord_by (0 :: ((List.range p).filter (fun x => M.testBit (cub p a b x))).flatMap fun x => [1 + 2 * x, 2 + 2 * x]) (fun P : G C => ptc P.1) ptc_inj (fun P => by
    obtain ⟨P, hP⟩ := P
    match P, hP with
    | none, _ => exact List.mem_cons_self ..
    | some (x, y), hP =>
      refine List.mem_cons_of_mem _ (List.mem_flatMap.mpr ⟨x.v.toNat, List.mem_filter.mpr ⟨List.mem_range.mpr (by have := x.hi; have := x.lo; omega), ?_⟩, ?_⟩)
      · have hP0 : y * y = x * x * x + C.a * x + C.b := hP
        obtain ⟨m, m1, m2, m3⟩ := zn x
        obtain ⟨n, n1, n2, n3⟩ := zn y
        rw [ha, hb, m2, n2] at hP0
        simp only [fi_mul, fi_add] at hP0
        have q : n * n % p = cub p a b m := fi_nat (p := p) (by
          rw [Int.natCast_mul, hP0]
          simp only [Int.natCast_add, Int.natCast_mul])
        show M.testBit (cub p a b x.v.toNat) = true
        rw [m3, Int.toNat_natCast, ← q]
        exact hM n n1
      · show 1 + 2 * x.v.toNat + (if 2 * y.v < p then 0 else 1) ∈ [1 + 2 * x.v.toNat, 2 + 2 * x.v.toNat]
        split
        · exact List.mem_cons_self ..
        · exact List.mem_cons_of_mem _ (List.mem_cons.mpr (.inl (by omega)))) X
  obtain ⟨m, m1, m2, m3⟩ := this
  refine ⟨m, m1, ?_, m3⟩
  rw [List.length_cons, two_len, hk] at m2
  omega
def chk (p M a : Nat) : Bool := al (fun b => Nat.ble (cnt (fun x => M.testBit (cub p a b x)) p) 150) p
theorem ord_chk {M : Nat} (h5 : 5 ≤ p) (hM : al (fun y => M.testBit (y * y % p)) p = true) (h0 : chk p M 0 = true) (h1 : chk p M 1 = true) (h2 : chk p M (p - 1) = true)
    (hs : al (fun a => Nat.beq a 0 || ey (fun u => !(Nat.beq u 0) && (Nat.beq (a * u * u * u * u % p) 1 || Nat.beq (a * u * u * u * u % p) (p - 1))) p) p = true)
    {C : Cur (Zp p)} (X : G C) : ∃ m, 1 ≤ m ∧ m ≤ 301 ∧ nm m X = 0 := by
  have main : ∀ (a : Nat), chk p M a = true → ∀ (C : Cur (Zp p)) (X : G C), C.a = fi p (a : Int) → ∃ m, 1 ≤ m ∧ m ≤ 301 ∧ nm m X = 0 := by
    intro a h C X ha
    obtain ⟨b, b1, b2, _⟩ := zn C.b
    exact ord_cnt (k := 150) (al_ok hM) ha b2 (Nat.le_of_ble_eq_true (al_ok h b b1)) X
  obtain ⟨a, a1, a2, _⟩ := zn C.a
  have := al_ok hs a a1
  rw [Bool.or_eq_true] at this
  rcases this with q | q
  · have : a = 0 := Nat.eq_of_beq_eq_true q
    rw [this] at a2
    exact main 0 h0 C X a2
  · obtain ⟨u, u1, u2⟩ := ey_ok q
    rw [Bool.and_eq_true, Bool.or_eq_true] at u2
    have u0 : u ≠ 0 := fun e => by rw [e] at u2; exact absurd u2.1 (by decide)
    have hu : fi p (u : Int) ≠ 0 := fun e => by
      have e2 := fi_nat (p := p) (m := u) (n := 0) e
      rw [Nat.mod_eq_of_lt u1, Nat.zero_mod] at e2
      exact u0 e2
    have ea : (stc C _ hu).a = fi p ((a * u * u * u * u % p : Nat) : Int) := by
      show C.a * fi p (u : Int) * fi p (u : Int) * fi p (u : Int) * fi p (u : Int) = _
      rw [a2]
      simp only [fi_mul]
      refine Zp.ext ?_
      show _ % (p : Int) = (((a * u * u * u * u % p : Nat) : Int)) % p
      rw [Int.natCast_emod, Int.emod_emod_of_dvd _ (Int.dvd_refl _)]
      simp only [Int.natCast_mul]
    have fin : ∀ a' : Nat, chk p M a' = true → a * u * u * u * u % p = a' → ∃ m, 1 ≤ m ∧ m ≤ 301 ∧ nm m X = 0 := by
      intro a' h e
      rw [e] at ea
      obtain ⟨m, m1, m2, m3⟩ := main a' h (stc C _ hu) (stg hu X) ea
      refine ⟨m, m1, m2, ?_⟩
      rw [← stg_nm] at m3
      exact (stg_zero hu).mp m3
    rcases u2.2 with r | r
    · exact fin 1 h1 (Nat.eq_of_beq_eq_true r)
    · exact fin (p - 1) h2 (Nat.eq_of_beq_eq_true r)
end
theorem ord_163 {p : Nat} [hp : Prm p] (e : p = 163) {C : Cur (Zp p)} (X : G C) : ∃ m, 1 ≤ m ∧ m ≤ 301 ∧ nm m X = 0 := by
  subst e
  exact ord_chk (M := 4897055654650805677578640992142773019711325193811) (by decide) (by decide +kernel) (by decide +kernel) (by decide +kernel) (by decide +kernel) (by decide +kernel) X
theorem ord_199 {p : Nat} [hp : Prm p] (e : p = 199) {C : Cur (Zp p)} (X : G C) : ∃ m, 1 ≤ m ∧ m ≤ 301 ∧ nm m X = 0 := by
  subst e
  exact ord_chk (M := 113609121299519182719251449131805282219309388139817713625015) (by decide) (by decide +kernel) (by decide +kernel) (by decide +kernel) (by decide +kernel) (by decide +kernel) X
end Ec
set_option Elab.async false
set_option linter.all false
set_option maxHeartbeats 1000000
/-! Md: small primes by the kernel. -/
namespace Ec
theorem pr_al {p : Nat} (h2 : 2 ≤ p) (h : al (fun d => Nat.ble d 1 || !(Nat.beq (p % d) 0)) p = true) : Pr p := by
  refine ⟨h2, fun d hd => ?_⟩
  have hle := Nat.le_of_dvd (by omega) hd
  rcases Nat.lt_or_ge d p with q | q
  · have := al_ok h d q
    rw [Bool.or_eq_true] at this
    rcases this with r | r
    · have := Nat.le_of_ble_eq_true r
      have : d ≠ 0 := fun e => by
        rw [e] at hd
        have := Nat.eq_zero_of_zero_dvd hd
        omega
      left; omega
    · have z := Nat.mod_eq_zero_of_dvd hd
      rw [z] at r
      cases r
  · right; omega
theorem ord_sml {p : Nat} [hp : Prm p] (h : p ≤ 150 ∨ p = 163 ∨ p = 199) {C : Cur (Zp p)} (X : G C) : ∃ m, 1 ≤ m ∧ m ≤ 301 ∧ nm m X = 0 := by
  rcases h with q | q | q
  · obtain ⟨m, a, b, c⟩ := ord_2p X
    exact ⟨m, a, by omega, c⟩
  · exact ord_163 q X
  · exact ord_199 q X
def smlB (p : Nat) : Bool := Nat.ble 5 p && ((Nat.ble p 150 || (Nat.beq p 163 || Nat.beq p 199)) && al (fun d => Nat.ble d 1 || !(Nat.beq (p % d) 0)) p)
theorem smlB_ok {p : Nat} (h : smlB p = true) : 5 ≤ p ∧ (p ≤ 150 ∨ p = 163 ∨ p = 199) ∧ Pr p := by
  rw [smlB, Bool.and_eq_true, Bool.and_eq_true, Bool.or_eq_true, Bool.or_eq_true] at h
  obtain ⟨h1, h2, h3⟩ := h
  have a := Nat.le_of_ble_eq_true h1
  refine ⟨a, ?_, pr_al (by omega) h3⟩
  rcases h2 with q | q | q
  · exact .inl (Nat.le_of_ble_eq_true q)
  · exact .inr (.inl (Nat.eq_of_beq_eq_true q))
  · exact .inr (.inr (Nat.eq_of_beq_eq_true q))
end Ec
set_option Elab.async false
set_option linter.all false
set_option maxHeartbeats 1000000
/-! Me: multiples by the kernel. -/
namespace Ec
open Lean.Grind
section
variable {p : Nat} [hp : Prm p]
/-- numbers with weights, modulo p -/
structure JP where
  x : Int
  y : Int
  z : Int
def JR (J : JP) (P : Pt (Zp p)) : Prop := Jr (fi p J.x) (fi p J.y) (fi p J.z) P
theorem jr_eq {F : Type} [Field F] {X Y Z X' Y' Z' : F} {P : Pt F} (h : Jr X Y Z P) (e1 : X' = X) (e2 : Y' = Y) (e3 : Z' = Z) : Jr X' Y' Z' P := by
  subst e1; subst e2; subst e3; exact h
/-- twice -/
def jtw (p a : Int) (J : JP) : JP :=
  let yy := J.y * J.y % p
  let s := 4 * J.x * yy % p
  let zz := J.z * J.z % p
  let m := (3 * J.x * J.x + a * zz * zz) % p
  let x := (m * m - 2 * s) % p
  ⟨x, (m * (s - x) - 8 * yy * yy) % p, 2 * J.y * J.z % p⟩
theorem fi_mod (x : Int) : fi p (x % p) = fi p x := Zp.ext (Int.emod_emod_of_dvd x (Int.dvd_refl _))
theorem jtw_ok {C : Cur (Zp p)} {a : Int} (ha : C.a = fi p a) {J : JP} {P : G C} (h : JR J P.1) : JR (jtw p a J) (P + P).1 := by
  have q := jr_twice h
  generalize (P + P).1 = R at q ⊢
  rw [ha] at q
  have l2 : (2 : Zp p) = fi p 2 := rfl
  have l3 : (3 : Zp p) = fi p 3 := rfl
  have l4 : (4 : Zp p) = fi p 4 := rfl
  have l8 : (8 : Zp p) = fi p 8 := rfl
  show Jr _ _ _ _
  unfold jtw
  dsimp only
  simp only [fi_mod, ← fi_mul, ← fi_add, ← fi_sub]
  rw [← l2, ← l3, ← l4, ← l8]
  have e1 : (fi p J.x) = (fi p J.x) := rfl
  generalize fi p J.x = X at *
  generalize fi p J.y = Y at *
  generalize fi p J.z = Z at *
  generalize fi p a = A at *
  exact jr_eq q (by grind) (by grind) (by grind)
/-- beside a point -/
def jbs (p a x2 y2 : Int) (J : JP) : JP :=
  if J.z % p = 0 then ⟨x2, y2, 1⟩ else
  let zz := J.z * J.z % p
  let u := (x2 * zz - J.x) % p
  let r := (y2 * zz * J.z - J.y) % p
  if u = 0 then (if r = 0 then jtw p a J else ⟨0, 1, 0⟩) else
  let uu := u * u % p
  let v := J.x * uu % p
  let c := uu * u % p
  let x := (r * r - c - 2 * v) % p
  ⟨x, (r * (v - x) - J.y * c) % p, J.z * u % p⟩
theorem jbs_ok {C : Cur (Zp p)} {a x2 y2 : Int} (ha : C.a = fi p a) {J : JP} {P Q : G C} (h : JR J P.1) (hQ : Q.1 = some (fi p x2, fi p y2)) : JR (jbs p a x2 y2 J) (P + Q).1 := by
  unfold jbs
  by_cases hz : J.z % p = 0
  · rw [if_pos hz]
    have z : fi p J.z = 0 := by rw [← fi_mod, hz]; rfl
    rcases h with ⟨_, e⟩ | ⟨n, _⟩
    · have : P = 0 := G.ext e
      rw [this, gzero_add, hQ]
      exact .inr ⟨fun e => zp_one_ne e.symm, _, _, rfl, by show fi p x2 = _ * (1 : Zp p) * 1; grind, by show fi p y2 = _ * (1 : Zp p) * 1 * 1; grind⟩
    · exact absurd z n
  · rw [if_neg hz]
    have z : fi p J.z ≠ 0 := fun e => hz (by
      have e2 := congrArg Zp.v e
      have z0 : (0 : Zp p).v = 0 := by show ((0 : Nat) : Int) % p = 0; simp
      rw [z0] at e2
      exact e2)
    have e0 : (fi p ((x2 * (J.z * J.z % p) - J.x) % p)) = fi p x2 * (fi p J.z * fi p J.z) - fi p J.x := by
      simp only [fi_mod, ← fi_mul, ← fi_sub]
    have r0 : (fi p ((y2 * (J.z * J.z % p) * J.z - J.y) % p)) = fi p y2 * (fi p J.z * fi p J.z) * fi p J.z - fi p J.y := by
      simp only [fi_mod, ← fi_mul, ← fi_sub]
    have zv : ∀ w : Int, fi p (w % p) = 0 ↔ w % p = 0 := by
      intro w
      rw [fi_mod]
      constructor
      · intro e
        have e2 := congrArg Zp.v e
        have z0 : (0 : Zp p).v = 0 := by show ((0 : Nat) : Int) % p = 0; simp
        rw [z0] at e2
        exact e2
      · intro e
        rw [← fi_mod, e]; rfl
    dsimp only
    by_cases hu : (x2 * (J.z * J.z % p) - J.x) % p = 0
    · rw [if_pos hu]
      have hf : fi p x2 * (fi p J.z * fi p J.z) - fi p J.x = 0 := by rw [← e0, hu]; rfl
      by_cases hr : (y2 * (J.z * J.z % p) * J.z - J.y) % p = 0
      · rw [if_pos hr]
        have hf2 : fi p y2 * (fi p J.z * fi p J.z) * fi p J.z - fi p J.y = 0 := by rw [← r0, hr]; rfl
        rw [jr_same h hQ z hf hf2]
        exact jtw_ok ha h
      · rw [if_neg hr]
        have hf2 : fi p y2 * (fi p J.z * fi p J.z) * fi p J.z - fi p J.y ≠ 0 := fun e => hr ((zv _).mp (by rw [← e, ← r0, fi_mod]))
        rw [jr_opp h hQ z hf hf2]
        exact .inl ⟨rfl, rfl⟩
    · rw [if_neg hu]
      have hf : fi p x2 * (fi p J.z * fi p J.z) - fi p J.x ≠ 0 := fun e => hu ((zv _).mp (by rw [← e, ← e0, fi_mod]))
      have q := jr_beside h hQ z hf
      generalize (P + Q).1 = R at q ⊢
      have l2 : (2 : Zp p) = fi p 2 := rfl
      show Jr _ _ _ _
      simp only [fi_mod, ← fi_mul, ← fi_sub]
      rw [← l2]
      generalize fi p J.x = X at *
      generalize fi p J.y = Y at *
      generalize fi p J.z = Z at *
      generalize fi p x2 = U at *
      generalize fi p y2 = V at *
      exact jr_eq q (by grind) (by grind) (by grind)
/-- k times a point -/
def jm (p a x y : Int) : Nat → Nat → JP
  | 0, _ => ⟨0, 1, 0⟩
  | f + 1, k => if k % 2 = 1 then jbs p a x y (jtw p a (jm p a x y f (k / 2))) else jtw p a (jm p a x y f (k / 2))
theorem jm_ok {C : Cur (Zp p)} {a x y : Int} (ha : C.a = fi p a) {P : G C} (hP : P.1 = some (fi p x, fi p y)) : ∀ f k, k < 2 ^ f → JR (jm p a x y f k) (nm k P).1
  | 0, k, h => by
    have : k = 0 := by omega
    rw [this]
    exact .inl ⟨rfl, rfl⟩
  | f + 1, k, h => by
    have ih := jm_ok ha hP f (k / 2) (by rw [Nat.pow_succ] at h; omega)
    have t := jtw_ok ha ih
    rw [← nm_two, ← nm_mul] at t
    unfold jm
    by_cases o : k % 2 = 1
    · rw [if_pos o]
      have q := jbs_ok ha t hP
      rw [← nm_succ] at q
      have e : 2 * (k / 2) + 1 = k := by omega
      rwa [e] at q
    · rw [if_neg o]
      have e : 2 * (k / 2) = k := by omega
      rwa [e] at t
theorem jm_zero {C : Cur (Zp p)} {a x y : Int} (ha : C.a = fi p a) {P : G C} (hP : P.1 = some (fi p x, fi p y)) {f k : Nat} (hk : k < 2 ^ f) : nm k P = 0 ↔ (jm p a x y f k).z % p = 0 := by
  have q := jm_ok ha hP f k hk
  constructor
  · intro h
    rcases q with ⟨z, _⟩ | ⟨_, _, _, e, _⟩
    · have e2 := congrArg Zp.v z
      have z0 : (0 : Zp p).v = 0 := by show ((0 : Nat) : Int) % p = 0; simp
      rw [z0] at e2
      exact e2
    · rw [h] at e; cases e
  · intro h
    rcases q with ⟨_, e⟩ | ⟨n, _⟩
    · exact G.ext e
    · exact absurd (by rw [← fi_mod, h]; rfl) n
end
end Ec
set_option Elab.async false
set_option linter.all false
set_option maxHeartbeats 1000000
/-! Mf: great primes by certificates. -/
namespace Ec
open Lean.Grind
/-- a to the k modulo n -/
def pm (n a : Nat) : Nat → Nat → Nat
  | 0, _ => 1
  | f + 1, k => if k % 2 = 1 then pm n a f (k / 2) * pm n a f (k / 2) % n * a % n else pm n a f (k / 2) * pm n a f (k / 2) % n
theorem fi_modn {r n : Nat} [hr : Prm r] (h : r ∣ n) (x : Nat) : fi r ((x % n : Nat) : Int) = fi r (x : Int) := by
  refine fi_eq.mpr ?_
  obtain ⟨s, rfl⟩ := h
  refine ⟨-((s : Int) * (x / (r * s) : Nat)), ?_⟩
  have := Nat.div_add_mod x (r * s)
  have e : ((r * s : Nat) : Int) * ((x / (r * s) : Nat) : Int) + ((x % (r * s) : Nat) : Int) = x := by exact_mod_cast this
  have e2 : (r : Int) * -((s : Int) * ((x / (r * s) : Nat) : Int)) = -(((r * s : Nat) : Int) * ((x / (r * s) : Nat) : Int)) := by
    rw [Int.natCast_mul, Int.mul_neg, Int.mul_assoc]
  rw [e2]
  omega
theorem pm_ok {r n : Nat} [hr : Prm r] (h : r ∣ n) (a : Nat) : ∀ f k, k < 2 ^ f → fi r ((pm n a f k : Nat) : Int) = (fi r (a : Int)) ^ k
  | 0, k, hk => by
    have : k = 0 := by omega
    rw [this, zp_pow_zero]; rfl
  | f + 1, k, hk => by
    have ih := pm_ok h a f (k / 2) (by rw [Nat.pow_succ] at hk; omega)
    unfold pm
    by_cases o : k % 2 = 1
    · rw [if_pos o, fi_modn h, Int.natCast_mul, ← fi_mul, fi_modn h, Int.natCast_mul, ← fi_mul, ih, ← zpow_add, ← zp_pow_succ]
      congr 1
      omega
    · rw [if_neg o, fi_modn h, Int.natCast_mul, ← fi_mul, ih, ← zpow_add]
      congr 1
      omega
theorem zpow_gcd {r : Nat} [hr : Prm r] (x : Zp r) : ∀ m n : Nat, x ^ m = 1 → x ^ n = 1 → x ^ (Nat.gcd m n) = 1 := by
  intro m n
  induction m, n using Nat.gcd.induction with
  | H0 n => intro _ h; rw [Nat.gcd_zero_left]; exact h
  | H1 m n hm ih =>
    intro h1 h2
    rw [Nat.gcd_rec]
    refine ih ?_ h1
    have e := Nat.div_add_mod n m
    have e2 : x ^ (m * (n / m) + n % m) = 1 := by rw [e]; exact h2
    rw [zpow_add, zpow_mul, h1, zone_pow] at e2
    generalize x ^ (n % m) = u at *
    grind
theorem pr_ex : ∀ n : Nat, 2 ≤ n → ∃ r, Pr r ∧ r ∣ n := by
  intro n
  induction n using Nat.strongRecOn with
  | _ n ih =>
    intro h
    by_cases c : ∃ d, d ∣ n ∧ d ≠ 1 ∧ d ≠ n
    · obtain ⟨d, d1, d2, d3⟩ := c
      have := Nat.le_of_dvd (by omega) d1
      have : d ≠ 0 := fun e => by
        rw [e] at d1
        have := Nat.eq_zero_of_zero_dvd d1
        omega
      obtain ⟨r, r1, r2⟩ := ih d (by omega) (by omega)
      exact ⟨r, r1, Nat.dvd_trans r2 d1⟩
    · refine ⟨n, ⟨h, fun d hd => ?_⟩, Nat.dvd_refl n⟩
      by_cases e : d = 1
      · exact .inl e
      · by_cases e2 : d = n
        · exact .inr e2
        · exact absurd ⟨d, hd, e, e2⟩ c
/-- one prime of n - 1 -/
def pk1 (n a q : Nat) : Bool := Nat.beq (pm n a 64 (n - 1)) 1 && (Nat.beq ((n - 1) % q) 0 && (Nat.beq (Nat.gcd (pm n a 64 ((n - 1) / q) + (n - 1)) n) 1 && Nat.ble n (2 ^ 62)))
theorem pk1_ok {n a q r : Nat} (hq : Pr q) (h2 : 2 ≤ n) (h : pk1 n a q = true) (hr : Pr r) (hd : r ∣ n) : q ∣ r - 1 := by
  haveI : Prm r := ⟨hr⟩
  rw [pk1, Bool.and_eq_true, Bool.and_eq_true, Bool.and_eq_true] at h
  obtain ⟨h1, h3, h4, h5⟩ := h
  have h1 := Nat.eq_of_beq_eq_true h1
  have h3 := Nat.eq_of_beq_eq_true h3
  have h4 := Nat.eq_of_beq_eq_true h4
  have h5 := Nat.le_of_ble_eq_true h5
  have lt : n < 2 ^ 64 := Nat.lt_of_le_of_lt h5 (by decide)
  have k1 := pm_ok hd a 64 (n - 1) (by omega)
  rw [h1] at k1
  have k2 := pm_ok hd a 64 ((n - 1) / q) (Nat.lt_of_le_of_lt (Nat.div_le_self _ _) (by omega))
  have e : (n - 1) / q * q = n - 1 := Nat.div_mul_cancel (Nat.dvd_of_mod_eq_zero h3)
  have b1 : ((fi r (a : Int)) ^ ((n - 1) / q)) ^ q = 1 := by rw [← zpow_mul, e, ← k1]; rfl
  have b2 : (fi r (a : Int)) ^ ((n - 1) / q) ≠ 1 := by
    intro z
    rw [← k2] at z
    have : fi r ((pm n a 64 ((n - 1) / q) + (n - 1) : Nat) : Int) = 0 := by
      rw [Int.natCast_add, ← fi_add, z]
      obtain ⟨s, hs⟩ := hd
      have : (1 : Zp r) = fi r ((1 : Nat) : Int) := rfl
      rw [this, fi_add]
      refine fi_zero_iff.mpr ⟨s, ?_⟩
      have hs' : (n : Int) = r * s := by rw [hs, Int.natCast_mul]
      omega
    have d := fi_zero_iff.mp this
    have d' := Int.natCast_dvd_natCast.mp d
    have := Nat.dvd_gcd d' hd
    rw [h4] at this
    have := Nat.le_of_dvd (by omega) this
    have := hr.1
    omega
  generalize fi r (a : Int) ^ ((n - 1) / q) = b at b1 b2
  have hb : b ≠ 0 := by
    intro z
    rw [z, zzero_pow (by have := hq.1; omega)] at b1
    exact zp_one_ne b1
  have g := zpow_gcd b q (r - 1) b1 (fermat hb)
  rcases hq.2 _ (Nat.gcd_dvd_left q (r - 1)) with w | w
  · rw [w] at g
    exact absurd (by have : b ^ (0 + 1) = b := by { rw [zp_pow_succ, zp_pow_zero]; grind }
                     rw [← this]; exact g) b2
  · rw [← w]; exact Nat.gcd_dvd_right q (r - 1)
/-- all primes of n leave 1 modulo F -/
def Lv (n F : Nat) : Prop := ∀ r, Pr r → r ∣ n → F ∣ r - 1
theorem lv_one (n : Nat) : Lv n 1 := fun _ _ _ => Nat.one_dvd _
theorem lv_mul {n F q a : Nat} (h : Lv n F) (hq : Pr q) (h2 : 2 ≤ n) (hc : Nat.gcd q F = 1) (hk : pk1 n a q = true) : Lv n (q * F) := fun r r1 r2 =>
  Nat.Coprime.mul_dvd_of_dvd_of_dvd hc (pk1_ok hq h2 hk r1 r2) (h r r1 r2)
theorem pr_lv {n F : Nat} (h : Lv n F) (h2 : 2 ≤ n) (hl : n < (F + 1) * (F + 1)) : Pr n := by
  have nd : ∀ d, d ∣ n → 2 ≤ d → F + 1 ≤ d := by
    intro d hd h2
    obtain ⟨r, r1, r2⟩ := pr_ex d h2
    have f := h r r1 (Nat.dvd_trans r2 hd)
    have := r1.1
    have := Nat.le_of_dvd (by omega) f
    have := Nat.le_of_dvd (by omega) r2
    omega
  refine ⟨h2, fun d hd => ?_⟩
  by_cases e : d = 1
  · exact .inl e
  · refine .inr ?_
    obtain ⟨c, hc⟩ := hd
    by_cases e2 : c = 1
    · rw [hc, e2, Nat.mul_one]
    · exfalso
      have c0 : c ≠ 0 := fun z => by rw [z, Nat.mul_zero] at hc; omega
      have d0 : d ≠ 0 := fun z => by rw [z, Nat.zero_mul] at hc; omega
      have a1 := nd d ⟨c, hc⟩ (by omega)
      have a2 := nd c ⟨d, by rw [hc, Nat.mul_comm]⟩ (by omega)
      have := Nat.mul_le_mul a1 a2
      omega
end Ec
set_option Elab.async false
set_option linter.all false
set_option maxRecDepth 100000
set_option maxHeartbeats 1000000
/-! Mg: written curves by the kernel. -/
namespace Ec
open Lean.Grind
theorem al_of {f : Nat → Bool} {n : Nat} (h : al f n = true) : ∀ i, i < n → f i = true := al_ok h
/-- small primes by the divisors to the root -/
def smP (k n : Nat) : Bool := Nat.ble 2 n && (Nat.ble (n + 1) (k * k) && al (fun d => Nat.ble d 1 || !(Nat.beq (n % d) 0)) k)
theorem smP_ok {k n : Nat} (h : smP k n = true) : Pr n := by
  rw [smP, Bool.and_eq_true, Bool.and_eq_true] at h
  obtain ⟨h1, h2, h3⟩ := h
  have h1 := Nat.le_of_ble_eq_true h1
  have h2 := Nat.le_of_ble_eq_true h2
  have nd : ∀ d, d ∣ n → 2 ≤ d → k ≤ d := by
    intro d hd d2
    rcases Nat.lt_or_ge d k with q | q
    · exfalso
      have := al_ok h3 d q
      rw [Bool.or_eq_true] at this
      rcases this with r | r
      · have := Nat.le_of_ble_eq_true r; omega
      · rw [Nat.mod_eq_zero_of_dvd hd] at r
        cases r
    · exact q
  refine ⟨h1, fun d hd => ?_⟩
  by_cases e : d = 1
  · exact .inl e
  · refine .inr ?_
    obtain ⟨c, hc⟩ := hd
    by_cases e2 : c = 1
    · rw [hc, e2, Nat.mul_one]
    · exfalso
      have c0 : c ≠ 0 := fun z => by rw [z, Nat.mul_zero] at hc; omega
      have d0 : d ≠ 0 := fun z => by rw [z, Nat.zero_mul] at hc; omega
      have a1 := nd d ⟨c, hc⟩ (by omega)
      have a2 := nd c ⟨d, by rw [hc, Nat.mul_comm]⟩ (by omega)
      have := Nat.mul_le_mul a1 a2
      omega
def ck1 (n q a : Nat) : Bool := Nat.ble 2 n && (pk1 n a q && Nat.ble (n + 1) ((q + 1) * (q + 1)))
theorem ck1_ok {n q a : Nat} (hq : Pr q) (h : ck1 n q a = true) : Pr n := by
  rw [ck1, Bool.and_eq_true, Bool.and_eq_true] at h
  obtain ⟨h1, h2, h3⟩ := h
  have h1 := Nat.le_of_ble_eq_true h1
  have h3 := Nat.le_of_ble_eq_true h3
  have := lv_mul (lv_one n) hq h1 (Nat.gcd_one_right q) h2
  rw [Nat.mul_one] at this
  exact pr_lv this h1 h3
def ck2 (n q a r b : Nat) : Bool := Nat.ble 2 n && (pk1 n a q && (pk1 n b r && (Nat.beq (Nat.gcd q r) 1 && Nat.ble (n + 1) ((q * r + 1) * (q * r + 1)))))
theorem ck2_ok {n q a r b : Nat} (hq : Pr q) (hr : Pr r) (h : ck2 n q a r b = true) : Pr n := by
  rw [ck2, Bool.and_eq_true, Bool.and_eq_true, Bool.and_eq_true, Bool.and_eq_true] at h
  obtain ⟨h1, h2, h2', h4, h3⟩ := h
  have h1 := Nat.le_of_ble_eq_true h1
  have h3 := Nat.le_of_ble_eq_true h3
  have := lv_mul (lv_one n) hr h1 (Nat.gcd_one_right r) h2'
  rw [Nat.mul_one] at this
  exact pr_lv (lv_mul this hq h1 (Nat.eq_of_beq_eq_true h4) h2) h1 h3
def ck3 (n q a r b s c : Nat) : Bool := Nat.ble 2 n && (pk1 n a q && (pk1 n b r && (pk1 n c s && (Nat.beq (Nat.gcd r s) 1 && (Nat.beq (Nat.gcd q (r * s)) 1 && Nat.ble (n + 1) ((q * (r * s) + 1) * (q * (r * s) + 1)))))))
theorem ck3_ok {n q a r b s c : Nat} (hq : Pr q) (hr : Pr r) (hs : Pr s) (h : ck3 n q a r b s c = true) : Pr n := by
  rw [ck3, Bool.and_eq_true, Bool.and_eq_true, Bool.and_eq_true, Bool.and_eq_true, Bool.and_eq_true, Bool.and_eq_true] at h
  obtain ⟨h1, h2, h2', h2'', h5, h4, h3⟩ := h
  have h1 := Nat.le_of_ble_eq_true h1
  have h3 := Nat.le_of_ble_eq_true h3
  have := lv_mul (lv_one n) hs h1 (Nat.gcd_one_right s) h2''
  rw [Nat.mul_one] at this
  exact pr_lv (lv_mul (lv_mul this hr h1 (Nat.eq_of_beq_eq_true h5) h2') hq h1 (Nat.eq_of_beq_eq_true h4) h2) h1 h3
/-- one written row -/
def ckR (p a b x y part n : Nat) : Bool :=
  Nat.ble 5 p && (Nat.ble (p + 1) (2 ^ 61) && (Nat.ble (n + 1) (2 ^ 61) && (Nat.ble (part + 1) (2 ^ 61) && (Nat.ble (a + 1) p && (Nat.ble (b + 1) p && (Nat.ble (x + 1) p && (Nat.ble (y + 1) p &&
  (!(Nat.beq ((4 * a * a * a + 27 * b * b) % p) 0) && (Nat.beq (y * y % p) ((x * x * x + a * x + b) % p) && (decide ((jm p a x y 128 (n * part)).z % p = 0) && !(decide ((jm p a x y 64 part).z % p = 0))))))))))))
theorem ckR_ok {p a b x y part n : Nat} [hp : Prm p] (h : ckR p a b x y part n = true) : (5 ≤ p ∧ p < 2 ^ 61 ∧ n < 2 ^ 61 ∧ part < 2 ^ 61) ∧ ∃ (C : Cur (Zp p)) (X Y : Zp p) (on : On C.a C.b (some (X, Y))), C.a.v = a ∧ C.b.v = b ∧ X.v = x ∧ Y.v = y ∧ nm n (nm part (⟨some (X, Y), on⟩ : G C)) = 0 ∧ nm part (⟨some (X, Y), on⟩ : G C) ≠ 0 := by
  unfold ckR at h
  simp only [Bool.and_eq_true] at h
  obtain ⟨h1, h2, h3, h4, h5, h6, h7, h8, h9, h10, h11, h12⟩ := h
  have h1 := Nat.le_of_ble_eq_true h1
  have h2 := Nat.le_of_ble_eq_true h2
  have h3 := Nat.le_of_ble_eq_true h3
  have h4 := Nat.le_of_ble_eq_true h4
  have h5 := Nat.le_of_ble_eq_true h5
  have h6 := Nat.le_of_ble_eq_true h6
  have h7 := Nat.le_of_ble_eq_true h7
  have h8 := Nat.le_of_ble_eq_true h8
  have h10 := Nat.eq_of_beq_eq_true h10
  have h11 := _root_.of_decide_eq_true h11
  have h12 : ¬ (jm p a x y 64 part).z % p = 0 := fun z => by rw [decide_eq_true z] at h12; cases h12
  refine ⟨⟨h1, by omega, by omega, by omega⟩, ?_⟩
  have two : (2 : Zp p) ≠ 0 := fun z => by
    have z : fi p ((2 : Nat) : Int) = 0 := z
    have := Int.natCast_dvd_natCast.mp (fi_zero_iff.mp z)
    have := Nat.le_of_dvd (by decide) this
    omega
  have flat : 4 * fi p (a : Int) * fi p a * fi p a + 27 * fi p (b : Int) * fi p b ≠ 0 := fun z => by
    have e4 : (4 : Zp p) = fi p ((4 : Nat) : Int) := rfl
    have e27 : (27 : Zp p) = fi p ((27 : Nat) : Int) := rfl
    rw [e4, e27] at z
    simp only [fi_mul, fi_add] at z
    have z : fi p ((4 * a * a * a + 27 * b * b : Nat) : Int) = 0 := by
      rw [← z]
      congr 1
    have := Int.natCast_dvd_natCast.mp (fi_zero_iff.mp z)
    rw [Nat.mod_eq_zero_of_dvd this] at h9
    cases h9
  have on : On (fi p (a : Int)) (fi p b) (some (fi p (x : Int), fi p (y : Int))) := by
    show fi p (y : Int) * fi p (y : Int) = fi p (x : Int) * fi p (x : Int) * fi p (x : Int) + fi p (a : Int) * fi p (x : Int) + fi p (b : Int)
    simp only [fi_mul, fi_add]
    refine Zp.ext ?_
    show ((y : Int) * y) % (p : Int) = ((x : Int) * x * x + a * x + b) % (p : Int)
    have := congrArg (fun z : Nat => (z : Int)) h10
    simp only [Int.natCast_emod, Int.natCast_mul, Int.natCast_add] at this
    exact this
  have vv : ∀ c : Nat, c + 1 ≤ p → (fi p (c : Int)).v = c := fun c hc => Int.emod_eq_of_lt (by omega) (by omega)
  refine ⟨⟨fi p a, fi p b, two, flat⟩, fi p x, fi p y, on, vv a h5, vv b h6, vv x h7, vv y h8, ?_, ?_⟩
  · refine (nm_mul n part _).symm.trans ((jm_zero (a := (a : Int)) (x := x) (y := y) (f := 128) rfl rfl ?_).mpr h11)
    have : n * part < 2 ^ 61 * 2 ^ 61 := Nat.mul_lt_mul'' (by omega) (by omega)
    exact Nat.lt_of_lt_of_le this (by decide)
  · intro z
    exact h12 ((jm_zero (a := (a : Int)) (x := x) (y := y) (f := 64) rfl rfl (by omega)).mp z)
theorem pr_27361 : Pr 27361 := smP_ok (k := 166) (by decide +kernel)
theorem pr_9029131 : Pr 9029131 := ck1_ok (a := 2) pr_27361 (by decide +kernel)
theorem pr_2817088873 : Pr 2817088873 := ck1_ok (a := 2) pr_9029131 (by decide +kernel)
theorem pr_20722505749789 : Pr 20722505749789 := ck1_ok (a := 2) pr_2817088873 (by decide +kernel)
theorem pr_594901695064942613 : Pr 594901695064942613 := ck1_ok (a := 2) pr_20722505749789 (by decide +kernel)
theorem pr_50321 : Pr 50321 := smP_ok (k := 225) (by decide +kernel)
theorem pr_16102721 : Pr 16102721 := ck1_ok (a := 2) pr_50321 (by decide +kernel)
theorem pr_13297 : Pr 13297 := smP_ok (k := 116) (by decide +kernel)
theorem pr_99150282510823769 : Pr 99150282510823769 := ck2_ok (a := 2) (b := 2) pr_16102721 pr_13297 (by decide +kernel)
theorem pr_4643 : Pr 4643 := smP_ok (k := 69) (by decide +kernel)
theorem pr_239 : Pr 239 := smP_ok (k := 16) (by decide +kernel)
theorem pr_226784688491 : Pr 226784688491 := ck2_ok (a := 2) (b := 2) pr_4643 pr_239 (by decide +kernel)
theorem pr_899238936125104507 : Pr 899238936125104507 := ck1_ok (a := 2) pr_226784688491 (by decide +kernel)
theorem pr_217907 : Pr 217907 := smP_ok (k := 467) (by decide +kernel)
theorem pr_665923793 : Pr 665923793 := ck1_ok (a := 2) pr_217907 (by decide +kernel)
theorem pr_224809734031276127 : Pr 224809734031276127 := ck1_ok (a := 2) pr_665923793 (by decide +kernel)
theorem pr_3673 : Pr 3673 := smP_ok (k := 61) (by decide +kernel)
theorem pr_8065909 : Pr 8065909 := ck1_ok (a := 2) pr_3673 (by decide +kernel)
theorem pr_150364675579 : Pr 150364675579 := ck1_ok (a := 2) pr_8065909 (by decide +kernel)
theorem pr_120278809101100207 : Pr 120278809101100207 := ck1_ok (a := 2) pr_150364675579 (by decide +kernel)
theorem pr_1123 : Pr 1123 := smP_ok (k := 34) (by decide +kernel)
theorem pr_419 : Pr 419 := smP_ok (k := 21) (by decide +kernel)
theorem pr_131 : Pr 131 := smP_ok (k := 12) (by decide +kernel)
theorem pr_578263505293751 : Pr 578263505293751 := ck3_ok (a := 2) (b := 2) (c := 2) pr_1123 pr_419 pr_131 (by decide +kernel)
theorem pr_9277 : Pr 9277 := smP_ok (k := 97) (by decide +kernel)
theorem pr_30317237 : Pr 30317237 := ck1_ok (a := 2) pr_9277 (by decide +kernel)
theorem pr_37493 : Pr 37493 := smP_ok (k := 194) (by decide +kernel)
theorem pr_11744220811801213 : Pr 11744220811801213 := ck2_ok (a := 2) (b := 2) pr_30317237 pr_37493 (by decide +kernel)
theorem pr_352326624354036391 : Pr 352326624354036391 := ck1_ok (a := 2) pr_11744220811801213 (by decide +kernel)
theorem pr_571 : Pr 571 := smP_ok (k := 24) (by decide +kernel)
theorem pr_47 : Pr 47 := smP_ok (k := 7) (by decide +kernel)
theorem pr_66663109 : Pr 66663109 := ck2_ok (a := 2) (b := 2) pr_571 pr_47 (by decide +kernel)
theorem pr_5199722503 : Pr 5199722503 := ck1_ok (a := 2) pr_66663109 (by decide +kernel)
theorem pr_1914818610619763 : Pr 1914818610619763 := ck1_ok (a := 2) pr_5199722503 (by decide +kernel)
theorem pr_863251 : Pr 863251 := smP_ok (k := 930) (by decide +kernel)
theorem pr_5179507 : Pr 5179507 := ck1_ok (a := 2) pr_863251 (by decide +kernel)
theorem pr_31077043 : Pr 31077043 := ck1_ok (a := 2) pr_5179507 (by decide +kernel)
theorem pr_16515272961491 : Pr 16515272961491 := ck1_ok (a := 2) pr_31077043 (by decide +kernel)
theorem pr_99091637768947 : Pr 99091637768947 := ck1_ok (a := 2) pr_16515272961491 (by decide +kernel)
theorem pr_3259 : Pr 3259 := smP_ok (k := 58) (by decide +kernel)
theorem pr_181 : Pr 181 := smP_ok (k := 14) (by decide +kernel)
theorem pr_14157097 : Pr 14157097 := ck2_ok (a := 2) (b := 2) pr_3259 pr_181 (by decide +kernel)
theorem pr_2252082676567 : Pr 2252082676567 := ck1_ok (a := 2) pr_14157097 (by decide +kernel)
theorem pr_9421 : Pr 9421 := smP_ok (k := 98) (by decide +kernel)
theorem pr_853 : Pr 853 := smP_ok (k := 30) (by decide +kernel)
theorem pr_98120939731 : Pr 98120939731 := ck2_ok (a := 2) (b := 2) pr_9421 pr_853 (by decide +kernel)
theorem pr_588725638387 : Pr 588725638387 := ck1_ok (a := 2) pr_98120939731 (by decide +kernel)
theorem pr_14029 : Pr 14029 := smP_ok (k := 119) (by decide +kernel)
theorem pr_2837 : Pr 2837 := smP_ok (k := 54) (by decide +kernel)
theorem pr_3422823479 : Pr 3422823479 := ck2_ok (a := 2) (b := 2) pr_14029 pr_2837 (by decide +kernel)
theorem pr_105491 : Pr 105491 := smP_ok (k := 325) (by decide +kernel)
theorem pr_1821829571 : Pr 1821829571 := ck1_ok (a := 2) pr_105491 (by decide +kernel)
theorem pr_769 : Pr 769 := smP_ok (k := 28) (by decide +kernel)
theorem pr_457 : Pr 457 := smP_ok (k := 22) (by decide +kernel)
theorem pr_2108599 : Pr 2108599 := ck2_ok (a := 2) (b := 2) pr_769 pr_457 (by decide +kernel)
theorem pr_50606377 : Pr 50606377 := ck1_ok (a := 2) pr_2108599 (by decide +kernel)
theorem pr_22171 : Pr 22171 := smP_ok (k := 149) (by decide +kernel)
theorem pr_499 : Pr 499 := smP_ok (k := 23) (by decide +kernel)
theorem pr_774433031 : Pr 774433031 := ck2_ok (a := 2) (b := 2) pr_22171 pr_499 (by decide +kernel)
theorem pr_608831 : Pr 608831 := smP_ok (k := 781) (by decide +kernel)
theorem pr_823 : Pr 823 := smP_ok (k := 29) (by decide +kernel)
theorem pr_3790739 : Pr 3790739 := ck2_ok (a := 2) (b := 2) pr_823 pr_47 (by decide +kernel)
theorem pr_7581479 : Pr 7581479 := ck1_ok (a := 2) pr_3790739 (by decide +kernel)
theorem pr_14480624891 : Pr 14480624891 := ck1_ok (a := 2) pr_7581479 (by decide +kernel)
theorem pr_5586625082947801 : Pr 5586625082947801 := ck1_ok (a := 2) pr_14480624891 (by decide +kernel)
theorem pr_2212303532847329197 : Pr 2212303532847329197 := ck1_ok (a := 2) pr_5586625082947801 (by decide +kernel)
theorem pr_22469 : Pr 22469 := smP_ok (k := 150) (by decide +kernel)
theorem pr_1723 : Pr 1723 := smP_ok (k := 42) (by decide +kernel)
theorem pr_170961408193 : Pr 170961408193 := ck2_ok (a := 2) (b := 2) pr_22469 pr_1723 (by decide +kernel)
theorem pr_92179313992318127 : Pr 92179313992318127 := ck1_ok (a := 2) pr_170961408193 (by decide +kernel)
theorem pr_2212303535815635049 : Pr 2212303535815635049 := ck1_ok (a := 2) pr_92179313992318127 (by decide +kernel)
theorem pr_57349 : Pr 57349 := smP_ok (k := 240) (by decide +kernel)
theorem pr_22817 : Pr 22817 := smP_ok (k := 152) (by decide +kernel)
theorem pr_117767891971 : Pr 117767891971 := ck2_ok (a := 2) (b := 2) pr_57349 pr_22817 (by decide +kernel)
theorem pr_2150700796752796201 : Pr 2150700796752796201 := ck1_ok (a := 2) pr_117767891971 (by decide +kernel)
theorem pr_449773 : Pr 449773 := smP_ok (k := 671) (by decide +kernel)
theorem pr_53507 : Pr 53507 := smP_ok (k := 232) (by decide +kernel)
theorem pr_119483377537411021 : Pr 119483377537411021 := ck2_ok (a := 2) (b := 2) pr_449773 pr_53507 (by decide +kernel)
theorem pr_2150700795673398379 : Pr 2150700795673398379 := ck1_ok (a := 2) pr_119483377537411021 (by decide +kernel)
theorem pr_6337 : Pr 6337 := smP_ok (k := 80) (by decide +kernel)
theorem pr_8098687 : Pr 8098687 := ck1_ok (a := 2) pr_6337 (by decide +kernel)
theorem pr_765374513623 : Pr 765374513623 := ck1_ok (a := 2) pr_8098687 (by decide +kernel)
theorem pr_4592247081739 : Pr 4592247081739 := ck1_ok (a := 2) pr_765374513623 (by decide +kernel)
theorem pr_1926943613474338313 : Pr 1926943613474338313 := ck1_ok (a := 2) pr_4592247081739 (by decide +kernel)
theorem pr_542093 : Pr 542093 := smP_ok (k := 737) (by decide +kernel)
theorem pr_6505117 : Pr 6505117 := ck1_ok (a := 2) pr_542093 (by decide +kernel)
theorem pr_59 : Pr 59 := smP_ok (k := 8) (by decide +kernel)
theorem pr_91645753605953 : Pr 91645753605953 := ck2_ok (a := 2) (b := 2) pr_6505117 pr_59 (by decide +kernel)
theorem pr_1926943615318767779 : Pr 1926943615318767779 := ck1_ok (a := 2) pr_91645753605953 (by decide +kernel)
theorem pr_275923 : Pr 275923 := smP_ok (k := 526) (by decide +kernel)
theorem pr_4414769 : Pr 4414769 := ck1_ok (a := 2) pr_275923 (by decide +kernel)
theorem pr_326692907 : Pr 326692907 := ck1_ok (a := 2) pr_4414769 (by decide +kernel)
theorem pr_4573700699 : Pr 4573700699 := ck1_ok (a := 2) pr_326692907 (by decide +kernel)
theorem pr_2301585953296446589 : Pr 2301585953296446589 := ck1_ok (a := 2) pr_4573700699 (by decide +kernel)
theorem pr_103 : Pr 103 := smP_ok (k := 11) (by decide +kernel)
theorem pr_7 : Pr 7 := smP_ok (k := 3) (by decide +kernel)
theorem pr_3 : Pr 3 := smP_ok (k := 2) (by decide +kernel)
theorem pr_3322369 : Pr 3322369 := ck3_ok (a := 2) (b := 3) (c := 3) pr_103 pr_7 pr_3 (by decide +kernel)
theorem pr_68501 : Pr 68501 := smP_ok (k := 262) (by decide +kernel)
theorem pr_1233019 : Pr 1233019 := ck1_ok (a := 2) pr_68501 (by decide +kernel)
theorem pr_1150792976048726099 : Pr 1150792976048726099 := ck2_ok (a := 2) (b := 2) pr_3322369 pr_1233019 (by decide +kernel)
theorem pr_2301585952097452199 : Pr 2301585952097452199 := ck1_ok (a := 2) pr_1150792976048726099 (by decide +kernel)
theorem pr_108707 : Pr 108707 := smP_ok (k := 330) (by decide +kernel)
theorem pr_13914497 : Pr 13914497 := ck1_ok (a := 2) pr_108707 (by decide +kernel)
theorem pr_1719497881273 : Pr 1719497881273 := ck1_ok (a := 2) pr_13914497 (by decide +kernel)
theorem pr_2129 : Pr 2129 := smP_ok (k := 47) (by decide +kernel)
theorem pr_3210533 : Pr 3210533 := ck1_ok (a := 2) pr_2129 (by decide +kernel)
theorem pr_1719497264141 : Pr 1719497264141 := ck1_ok (a := 2) pr_3210533 (by decide +kernel)
theorem pr_285281 : Pr 285281 := smP_ok (k := 535) (by decide +kernel)
theorem pr_36194171033 : Pr 36194171033 := ck1_ok (a := 2) pr_285281 (by decide +kernel)
theorem pr_2244831401168306833 : Pr 2244831401168306833 := ck1_ok (a := 2) pr_36194171033 (by decide +kernel)
theorem pr_2267 : Pr 2267 := smP_ok (k := 48) (by decide +kernel)
theorem pr_421884167 : Pr 421884167 := ck2_ok (a := 2) (b := 2) pr_2267 pr_769 (by decide +kernel)
theorem pr_386249 : Pr 386249 := smP_ok (k := 622) (by decide +kernel)
theorem pr_561207850761843853 : Pr 561207850761843853 := ck2_ok (a := 2) (b := 2) pr_421884167 pr_386249 (by decide +kernel)
theorem pr_811 : Pr 811 := smP_ok (k := 29) (by decide +kernel)
theorem pr_293 : Pr 293 := smP_ok (k := 18) (by decide +kernel)
theorem pr_31841483 : Pr 31841483 := ck2_ok (a := 2) (b := 2) pr_811 pr_293 (by decide +kernel)
theorem pr_364361835237137 : Pr 364361835237137 := ck1_ok (a := 2) pr_31841483 (by decide +kernel)
theorem pr_2142447591194365561 : Pr 2142447591194365561 := ck1_ok (a := 2) pr_364361835237137 (by decide +kernel)
theorem pr_192259 : Pr 192259 := smP_ok (k := 439) (by decide +kernel)
theorem pr_11535541 : Pr 11535541 := ck1_ok (a := 2) pr_192259 (by decide +kernel)
theorem pr_138426493 : Pr 138426493 := ck1_ok (a := 2) pr_11535541 (by decide +kernel)
theorem pr_59512433041402177 : Pr 59512433041402177 := ck2_ok (a := 2) (b := 2) pr_138426493 pr_811 (by decide +kernel)
theorem pr_210533 : Pr 210533 := smP_ok (k := 459) (by decide +kernel)
theorem pr_33863 : Pr 33863 := smP_ok (k := 185) (by decide +kernel)
theorem pr_2231826216886531999 : Pr 2231826216886531999 := ck2_ok (a := 2) (b := 2) pr_210533 pr_33863 (by decide +kernel)
theorem pr_296561 : Pr 296561 := smP_ok (k := 545) (by decide +kernel)
theorem pr_247980690765529417 : Pr 247980690765529417 := ck2_ok (a := 2) (b := 2) pr_296561 pr_13297 (by decide +kernel)
theorem pr_371213 : Pr 371213 := smP_ok (k := 610) (by decide +kernel)
theorem pr_310334069 : Pr 310334069 := ck1_ok (a := 2) pr_371213 (by decide +kernel)
theorem pr_46634521216769 : Pr 46634521216769 := ck1_ok (a := 2) pr_310334069 (by decide +kernel)
theorem pr_2285464615791415153 : Pr 2285464615791415153 := ck1_ok (a := 2) pr_46634521216769 (by decide +kernel)
theorem pr_148861 : Pr 148861 := smP_ok (k := 386) (by decide +kernel)
theorem pr_298019723 : Pr 298019723 := ck1_ok (a := 2) pr_148861 (by decide +kernel)
theorem pr_596039447 : Pr 596039447 := ck1_ok (a := 2) pr_298019723 (by decide +kernel)
theorem pr_3576236683 : Pr 3576236683 := ck1_ok (a := 2) pr_596039447 (by decide +kernel)
theorem pr_108831648503494237 : Pr 108831648503494237 := ck1_ok (a := 2) pr_3576236683 (by decide +kernel)
theorem pr_6353 : Pr 6353 := smP_ok (k := 80) (by decide +kernel)
theorem pr_2452259 : Pr 2452259 := ck1_ok (a := 2) pr_6353 (by decide +kernel)
theorem pr_19618073 : Pr 19618073 := ck1_ok (a := 2) pr_2452259 (by decide +kernel)
theorem pr_3457 : Pr 3457 := smP_ok (k := 59) (by decide +kernel)
theorem pr_2134867170861007381 : Pr 2134867170861007381 := ck2_ok (a := 2) (b := 2) pr_19618073 pr_3457 (by decide +kernel)
theorem pr_4597 : Pr 4597 := smP_ok (k := 68) (by decide +kernel)
theorem pr_29 : Pr 29 := smP_ok (k := 6) (by decide +kernel)
theorem pr_76788289 : Pr 76788289 := ck2_ok (a := 2) (b := 2) pr_4597 pr_29 (by decide +kernel)
theorem pr_1842918937 : Pr 1842918937 := ck1_ok (a := 2) pr_76788289 (by decide +kernel)
theorem pr_33172540867 : Pr 33172540867 := ck1_ok (a := 2) pr_1842918937 (by decide +kernel)
theorem pr_2107237691082081319 : Pr 2107237691082081319 := ck1_ok (a := 2) pr_33172540867 (by decide +kernel)
theorem pr_4057 : Pr 4057 := smP_ok (k := 64) (by decide +kernel)
theorem pr_1373 : Pr 1373 := smP_ok (k := 38) (by decide +kernel)
theorem pr_163 : Pr 163 := smP_ok (k := 13) (by decide +kernel)
theorem pr_45644232508394059 : Pr 45644232508394059 := ck3_ok (a := 2) (b := 2) (c := 2) pr_4057 pr_1373 pr_163 (by decide +kernel)
theorem pr_1825769300335762361 : Pr 1825769300335762361 := ck1_ok (a := 2) pr_45644232508394059 (by decide +kernel)
theorem row_0 : ckR 594901695064942613 0 90852140382488038 298169023351377261 131836277379869994 6 99150282510823769 = true := by decide +kernel
theorem row_1 : ckR 899238936125104507 623973976319992478 0 687794221188787259 807095951183896993 4 224809734031276127 = true := by decide +kernel
theorem row_2 : ckR 120278809101100207 82513242152874884 0 93780419591815839 45424875311091136 208 578263505293751 = true := by decide +kernel
theorem row_3 : ckR 352326624354036391 289126310759103258 0 125246537664148163 68673023204271518 184 1914818610619763 = true := by decide +kernel
theorem row_4 : ckR 99091637768947 20584471948745 0 53576424004011 75867721549579 44 2252082676567 = true := by decide +kernel
theorem row_5 : ckR 588725638387 188717398484 0 41914573633 54616719952 86 3422823479 = true := by decide +kernel
theorem row_6 : ckR 1821829571 0 1634240666 652401904 1589822726 36 50606377 = true := by decide +kernel
theorem row_7 : ckR 774433031 325142080 0 398737372 87845304 636 608831 = true := by decide +kernel
theorem row_8 : ckR 2212303532847329197 0 1824466717961184412 102015373044761190 1463740985063553635 1 2212303535815635049 = true := by decide +kernel
theorem row_9 : ckR 2150700796752796201 515840155116946368 865885675462993822 1452693047535041398 859990042561427534 1 2150700795673398379 = true := by decide +kernel
theorem row_10 : ckR 1926943613474338313 1374885447456909454 436242632932860494 350978973582228697 491118496815289747 1 1926943615318767779 = true := by decide +kernel
theorem row_11 : ckR 2301585953296446589 1368478552696552520 1846687788228677404 665900373099848999 371873813362155928 1 2301585952097452199 = true := by decide +kernel
theorem row_12 : ckR 1719497881273 452180237254 553388086810 875718680840 664840696409 1 1719497264141 = true := by decide +kernel
theorem row_13 : ckR 2244831401168306833 271471371013712769 320358714379868781 1333256753048411740 283002587439464484 1 561207850761843853 = true := by decide +kernel
theorem row_14 : ckR 2142447591194365561 188822605727690642 0 345862950931730521 112485659042763387 3 59512433041402177 = true := by decide +kernel
theorem row_15 : ckR 2231826216886531999 1733345577326691053 1984271757643749453 231343828341483905 1143277214346086193 3 247980690765529417 = true := by decide +kernel
theorem row_16 : ckR 2285464615791415153 0 1114733071262688128 555091008305402546 973405688177621739 21 108831648503494237 = true := by decide +kernel
theorem row_17 : ckR 2134867170861007381 0 97962576839668373 1938332153355055743 701153342830516272 1 2134867170861007381 = true := by decide +kernel
theorem row_18 : ckR 2107237691082081319 105850534895467864 2043193640250352255 556264940121881033 701250474754641713 1 2107237691082081319 = true := by decide +kernel
theorem row_19 : ckR 1825769300335762361 182914559178613633 1725427160719257881 761442678309067784 1100903530146038984 1 1825769300335762361 = true := by decide +kernel
end Ec
set_option Elab.async false
set_option linter.all false
set_option maxRecDepth 100000
set_option maxHeartbeats 400000
namespace Ec
/-! sizes -/
class Sz (n : outParam Nat) (x : Int) : Prop where
  h : x.natAbs < 2 ^ n
class Bd (p : Nat) : Prop where
  h : p < 2 ^ 61
theorem two_le (a b : Nat) : 2 ^ a ≤ 2 ^ (a + b) := Nat.pow_le_pow_right (by decide) (by omega)
instance sz_mul {m n : Nat} {x y : Int} [hx : Sz m x] [hy : Sz n y] : Sz (m + n) (x * y) := ⟨by
  rw [Int.natAbs_mul, Nat.pow_add]
  have h1 := hx.h
  have h2 := hy.h
  exact Nat.mul_lt_mul'' h1 h2⟩
theorem sz_sum {m n : Nat} {x y : Int} (hx : Sz m x) (hy : Sz n y) : x.natAbs + y.natAbs < 2 ^ (m + n + 1) := by
  have h1 := hx.h
  have h2 := hy.h
  have h3 := two_le m n
  have h4 := two_le n m
  rw [Nat.add_comm n m] at h4
  rw [Nat.pow_succ]
  omega
instance sz_add {m n : Nat} {x y : Int} [hx : Sz m x] [hy : Sz n y] : Sz (m + n + 1) (x + y) := ⟨by
  have := sz_sum hx hy
  have := Int.natAbs_add_le x y
  omega⟩
instance sz_sub {m n : Nat} {x y : Int} [hx : Sz m x] [hy : Sz n y] : Sz (m + n + 1) (x - y) := ⟨by
  have := sz_sum hx hy
  have := Int.natAbs_sub_le x y
  omega⟩
instance sz_neg {m : Nat} {x : Int} [hx : Sz m x] : Sz m (-x) := ⟨by rw [Int.natAbs_neg]; exact hx.h⟩
instance sz_mod {p : Nat} {x : Int} [hp : Prm p] [hb : Bd p] : Sz 61 (x % (p : Int)) := ⟨by
  have h1 := Int.emod_nonneg x (show (p : Int) ≠ 0 by have := ppos p; omega)
  have h2 := Int.emod_lt_of_pos x (ppos p)
  have h3 := hb.h
  omega⟩
instance sz_v {p : Nat} {x : Zp p} [hb : Bd p] : Sz 61 x.v := ⟨by
  have := x.lo
  have := x.hi
  have h3 := hb.h
  omega⟩
instance sz_p {p : Nat} [hb : Bd p] : Sz 61 (p : Int) := ⟨by have h3 := hb.h; omega⟩
instance : Sz 8 (0 : Int) := ⟨by decide⟩
instance : Sz 8 (1 : Int) := ⟨by decide⟩
instance : Sz 8 (2 : Int) := ⟨by decide⟩
instance : Sz 8 (3 : Int) := ⟨by decide⟩
instance : Sz 8 (4 : Int) := ⟨by decide⟩
instance : Sz 8 (8 : Int) := ⟨by decide⟩
instance : Sz 8 (27 : Int) := ⟨by decide⟩
section
variable {p : Nat} [hp : Prm p]
theorem fi0 : fi p 0 = 0 := rfl
theorem fi1 : fi p 1 = 1 := rfl
theorem fi2 : fi p 2 = 2 := rfl
theorem fi3 : fi p 3 = 3 := rfl
theorem fi4 : fi p 4 = 4 := rfl
theorem fi8 : fi p 8 = 8 := rfl
theorem fi27 : fi p 27 = 27 := rfl
theorem fi_add' (x y : Int) : fi p (x + y) = fi p x + fi p y := (fi_add x y).symm
theorem fi_mul' (x y : Int) : fi p (x * y) = fi p x * fi p y := (fi_mul x y).symm
theorem fi_sub' (x y : Int) : fi p (x - y) = fi p x - fi p y := (fi_sub x y).symm
theorem fi_neg' (x : Int) : fi p (-x) = -fi p x := (fi_neg x).symm
theorem zp_zero_v : (0 : Zp p).v = 0 := by show ((0 : Nat) : Int) % p = 0; simp
theorem zp_v_zero {x : Zp p} : x.v = 0 ↔ x = 0 := ⟨fun h => Zp.ext (by rw [h, zp_zero_v]), fun h => by rw [h, zp_zero_v]⟩
theorem zp_v_eq {x y : Zp p} : x.v = y.v ↔ x = y := ⟨Zp.ext, fun h => by rw [h]⟩
theorem mod_zero {x : Int} : x % (p : Int) = 0 ↔ fi p x = 0 := by
  rw [← zp_v_zero]; rfl
theorem mod_eq {x y : Int} : x % (p : Int) = y % (p : Int) ↔ fi p x = fi p y := by
  rw [← zp_v_eq]; rfl
end
end Ec
namespace K75
open PySem PySem.Spec PyProof.Rows L2 Cc Ec
theorem _root_.L2.Room.units1 {k : Nat} {A : Around} (r : Room k A) : A.units + 1 < cLine := by have := r.un; omega
section
variable {P : Program} {w : World} {K : PySem.W.Frag} {mg : Str → Option Value} {base : Heap}
/-- what the head tells -/
structure Kt (K : PySem.W.Frag) (mg : Str → Option Value) (base : Heap) : Prop where
  says : SaysK K
  kin : K.In base
  ns : base.Ns mainGlobals mg
theorem Kt.fn (A : Kt K mg base) (i : Nat) {d : He.DefD} (h : fn[i]? = some d := by rfl) : ∃ fd, FunD K d.name d.qual d.params d.body d.scope (d.dvs K) (d.kws K) (He.fAd K d.at_) fd :=
  He.SaysD.def_ (congrArg (fun z : Al => z.2) A.says) i h
theorem Kt.glo (A : Kt K mg base) (i : Nat) {x : Str} (h : fa[i]? = some (.glo x) := by rfl) : mg x = some (.ref (He.ga K x)) :=
  He.glo_ok A.kin A.ns (He.SaysD.fact (congrArg (fun z : Al => z.2) A.says) i h)
theorem Kt.free (A : Kt K mg base) (i : Nat) {x : Str} (h : fa[i]? = some (.free x) := by rfl) : mg x = none :=
  He.free_ok A.kin A.ns (He.SaysD.fact (congrArg (fun z : Al => z.2) A.says) i h)
theorem Kt.int (A : Kt K mg base) (i : Nat) {x : Str} {n : Int} (h : fa[i]? = some (.int x n) := by rfl) : ∃ t, mg x = some (.int n t) :=
  He.int_ok A.kin A.ns (He.SaysD.fact (congrArg (fun z : Al => z.2) A.says) i h)
theorem Kt.str (A : Kt K mg base) (i : Nat) {x z : Str} (h : fa[i]? = some (.str x z) := by rfl) : ∃ t, mg x = some (.str z t) :=
  He.str_ok A.kin A.ns (He.SaysD.fact (congrArg (fun z : Al => z.2) A.says) i h)
theorem bis_mem {K : PySem.W.Frag} : ∀ {l : List (Str × String)} {x : Str} {id : String}, bis K l = true → (x, id) ∈ l → PySem.W.nsIn K mainGlobals x = some (some (.builtin id))
  | (y, i) :: r, x, id, h, m => by
    unfold bis at h
    rw [Bool.and_eq_true] at h
    rcases List.mem_cons.mp m with e | m
    · cases e; exact He.eqO_ok h.1
    · exact bis_mem h.2 m
theorem Kt.imp (A : Kt K mg base) {id : String} (x : Str) (h : (x, id) ∈ bi := by simp [bi]) : mg x = some (.builtin id) :=
  PySem.W.mg_of A.kin A.ns (bis_mem (congrArg (fun z : Al => z.1) A.says) h)
/-! ### values -/
structure Cv where
  p : Nat
  hp : Prm p
  hb : Bd p
  five : 5 ≤ p
  C : Cur (Zp p)
instance (V : Cv) : Prm V.p := V.hp
instance (V : Cv) : Bd V.p := V.hb
def encP {p : Nat} : Pt (Zp p) → D
  | none => .tup []
  | some (x, y) => .tup [.int x.v, .int y.v]
def encC (V : Cv) : D := .tup [.int V.p, .int V.C.a.v, .int V.C.b.v]
theorem cmW {x y : Int} {m n : Nat} [hx : Sz m x] [hy : Sz n y] (h0 : Nat.ble 1 m = true := by rfl) (h1 : Nat.ble 1 n = true := by rfl) (h : Nat.ble (m + n) 900000 = true := by rfl) : CMulW x y :=
  wide_mul hx.h hy.h (Nat.le_of_ble_eq_true h0) (Nat.le_of_ble_eq_true h1) (Nat.le_trans (Nat.le_of_ble_eq_true h) (by decide))
theorem cdW {x y : Int} {n : Nat} [hy : Sz n y] (h : 0 < y) (h0 : Nat.ble 1 n = true := by rfl) (h1 : Nat.ble n 9000 = true := by rfl) : CDivW x y := wide_div h hy.h (Nat.le_of_ble_eq_true h0) (Nat.le_of_ble_eq_true h1)
theorem toF {p : Nat} [Prm p] {Qd : D → Prop} {e : Int} {t : Zp p} (hq : Qd (.int t.v)) (h : fi p e = t) : Qd (.int (e % p)) := by rw [← h] at hq; exact hq
theorem toP {p : Nat} [Prm p] {Qd : D → Prop} {e f : Int} {P : Pt (Zp p)} {s t : Zp p} (hq : Qd (encP P)) (hP : P = some (s, t)) (h : fi p e = s) (h' : fi p f = t) : Qd (.tup [.int (e % p), .int (f % p)]) := by
  rw [hP, ← h, ← h'] at hq; exact hq
theorem dec_t {c : Prop} [Decidable c] {Q : Bool → Prop} (h : c) (q : Q true) : Q (decide c) := by rw [decide_eq_true h]; exact q
theorem dec_f {c : Prop} [Decidable c] {Q : Bool → Prop} (h : ¬ c) (q : Q false) : Q (decide c) := by rw [decide_eq_false h]; exact q
theorem ints_encP {p : Nat} (P : Pt (Zp p)) : ∃ ns : List Int, encP P = .tup (ns.map D.int) := by
  match P with
  | none => exact ⟨[], rfl⟩
  | some (x, y) => exact ⟨[x.v, y.v], rfl⟩
end
end K75
set_option Elab.async false
set_option linter.all false
set_option maxRecDepth 100000
set_option maxHeartbeats 1000000
namespace K75
open PySem PySem.Spec PyProof.Rows L2 Cc Ec
section
variable {P : Program} {w : World} {K : PySem.W.Frag} {mg : Str → Option Value} {base : Heap}
theorem k_ii : kitB "int" "int" = some true := by decide +kernel
theorem k_ib : kitB "int" "bool" = some false := by decide +kernel
theorem k_tt : kitB "tuple" "tuple" = some true := by decide +kernel
/-! is_integer: slots 0 value -/
def sp_is_integer : Spd := fun ds Q => ∃ i, ds = [.int i] ∧ Q (.bl true)
theorem sc_is_integer : FnScope ["value"] ["value"] (defScope (top 28)) := ⟨rfl, rfl, rfl, by decide +kernel, rfl, by decide +kernel, by decide +kernel⟩
theorem ok_is_integer (A : Kt K mg base) : FnAt P w K mg base 1 "is_integer" ["value"] sp_is_integer := by
  obtain ⟨fd, F⟩ := A.fn 16 (d := dd "is_integer" 28)
  refine fn_mk (A.glo 16) F sc_is_integer (by decide) (fun _ _ _ _ _ _ us hl => match us, hl with | [_], _ => rfl) ?_ ?_
  · intro ds Q h
    obtain ⟨i, rfl, hq⟩ := h
    rfl
  · intro E cdv A' outer s H Ex ds Qd hr h
    obtain ⟨i, rfl, hq⟩ := h
    refine ⟨_, (pssc_one (psc_ret (pec_and (pec_isi (T := "int") (A.free 100) (A.free 99) rfl (pec_var (i := 0))) (pec_one (pec_not (pec_isi (T := "bool") (A.free 100) (A.free 97) rfl (pec_var (i := 0)))))))), ?_⟩
    exact ⟨_, _, rfl, k_ii, fun _ => ⟨_, _, rfl, k_ib, hq⟩, fun h => nomatch h⟩
/-! is_tuple_of: slots 0 value, 1 size -/
def sp_is_tuple_of : Spd := fun ds Q => ∃ xs, ds = [.tup xs, .int (xs.length : Nat)] ∧ Q (.bl true)
theorem sc_is_tuple_of : FnScope ["value", "size"] ["value", "size"] (defScope (top 29)) := ⟨rfl, rfl, rfl, by decide +kernel, rfl, by decide +kernel, by decide +kernel⟩
theorem ok_is_tuple_of (A : Kt K mg base) : FnAt P w K mg base 1 "is_tuple_of" ["value", "size"] sp_is_tuple_of := by
  obtain ⟨fd, F⟩ := A.fn 17 (d := dd "is_tuple_of" 29)
  refine fn_mk (A.glo 17) F sc_is_tuple_of (by decide) (fun _ _ _ _ _ _ us hl => match us, hl with | [_, _], _ => rfl) ?_ ?_
  · intro ds Q h
    obtain ⟨xs, rfl, hq⟩ := h
    rfl
  · intro E cdv A' outer s H Ex ds Qd hr h
    obtain ⟨xs, rfl, hq⟩ := h
    refine ⟨_, (pssc_one (psc_ret (pec_and (pec_isi (T := "tuple") (A.free 100) (A.free 107) rfl (pec_var (i := 0))) (pec_one (pec_eq hr.units (pec_lenc (A.free 101) (pac_cons (pec_var (i := 0)) pac_nil)) (pec_var (i := 1))))))), ?_⟩
    exact ⟨_, _, rfl, k_tt, fun _ => dec_t (Q := fun b => Qd (.bl b)) rfl hq, fun h => nomatch h⟩
/-! right_side: slots 0 curve, 1 x, 2 p, 3 a, 4 b -/
def sp_right_side : Spd := fun ds Q => ∃ (V : Cv) (x : Zp V.p), ds = [encC V, .int x.v] ∧ Q (.int (x * x * x + V.C.a * x + V.C.b).v)
theorem sc_right_side : FnScope ["curve", "x", "p", "a", "b"] ["curve", "x"] (defScope (top 41)) := ⟨rfl, rfl, rfl, by decide +kernel, rfl, by decide +kernel, by decide +kernel⟩
theorem ok_right_side (A : Kt K mg base) : FnAt P w K mg base 1 "right_side" ["curve", "x"] sp_right_side := by
  obtain ⟨fd, F⟩ := A.fn 23 (d := dd "right_side" 41)
  refine fn_mk (A.glo 23) F sc_right_side (by decide) (fun _ _ _ _ _ _ us hl => match us, hl with | [_, _], _ => rfl) ?_ ?_
  · intro ds Q h
    obtain ⟨V, x, rfl, hq⟩ := h
    rfl
  · intro E cdv A' outer s H Ex ds Qd hr h
    obtain ⟨V, x, rfl, hq⟩ := h
    refine ⟨_, (pssc_cons (psc_asg (pec_var (i := 0)) (pgc_tup rfl (pgsc_cons (pgc_name (i := 2) sc_right_side.nd) (pgsc_cons (pgc_name (i := 3) sc_right_side.nd) (pgsc_cons (pgc_name (i := 4) sc_right_side.nd) pgsc_nil)))))
      (pssc_one (psc_ret (pec_mod (pec_addI (pec_mul (pec_addI (pec_mul (pec_var (i := 1)) (pec_var (i := 1))) (pec_var (i := 3))) (pec_var (i := 1))) (pec_var (i := 4))) (pec_var (i := 2)))))), ?_⟩
    refine ⟨rfl, cmW, cmW, ppos V.p, toF hq ?_⟩
    simp only [fi_add', fi_mul', fi_val]
    grind
/-! is_on: slots 0 curve, 1 x, 2 y -/
def sp_is_on : Spd := fun ds Q => ∃ (V : Cv) (x y : Zp V.p), ds = [encC V, .int x.v, .int y.v] ∧ On V.C.a V.C.b (some (x, y)) ∧ Q (.bl true)
theorem sc_is_on : FnScope ["curve", "x", "y"] ["curve", "x", "y"] (defScope (top 42)) := ⟨rfl, rfl, rfl, by decide +kernel, rfl, by decide +kernel, by decide +kernel⟩
theorem ok_is_on (A : Kt K mg base) : FnAt P w K mg base 2 "is_on" ["curve", "x", "y"] sp_is_on := by
  obtain ⟨fd, F⟩ := A.fn 24 (d := dd "is_on" 42)
  refine fn_mk (A.glo 24) F sc_is_on (by decide) (fun _ _ _ _ _ _ us hl => match us, hl with | [_, _, _], _ => rfl) ?_ ?_
  · intro ds Q h
    obtain ⟨V, x, y, rfl, h, hq⟩ := h
    rfl
  · intro E cdv A' outer s H Ex ds Qd hr h
    obtain ⟨V, x, y, rfl, h, hq⟩ := h
    refine ⟨_, (pssc_one (psc_ret (pec_eq hr.units (pec_mod (pec_mul (pec_var (i := 2)) (pec_var (i := 2))) (pec_item (k := 0) (pec_var (i := 0)))) (pec_call (ok_right_side A) (hr.mono (by decide)) (pac_cons (pec_var (i := 0)) (pac_cons (pec_var (i := 1)) pac_nil)))))), ?_⟩
    refine ⟨cmW, ppos V.p, V, x, rfl, ?_⟩
    refine dec_t (Q := fun b => Qd (.bl b)) ?_ hq
    have e : y * y = x * x * x + V.C.a * x + V.C.b := h
    rw [← e, ← fi_v, fi_mul', fi_val]
/-! is_below: slots 0 value, 1 bound -/
def sp_is_below : Spd := fun ds Q => ∃ i n : Int, ds = [.int i, .int n] ∧ 0 ≤ i ∧ i < n ∧ Q (.bl true)
theorem sc_is_below : FnScope ["value", "bound"] ["value", "bound"] (defScope (top 43)) := ⟨rfl, rfl, rfl, by decide +kernel, rfl, by decide +kernel, by decide +kernel⟩
theorem ok_is_below (A : Kt K mg base) : FnAt P w K mg base 2 "is_below" ["value", "bound"] sp_is_below := by
  obtain ⟨fd, F⟩ := A.fn 25 (d := dd "is_below" 43)
  refine fn_mk (A.glo 25) F sc_is_below (by decide) (fun _ _ _ _ _ _ us hl => match us, hl with | [_, _], _ => rfl) ?_ ?_
  · intro ds Q h
    obtain ⟨i, n, rfl, h0, h1, hq⟩ := h
    rfl
  · intro E cdv A' outer s H Ex ds Qd hr h
    obtain ⟨i, n, rfl, h0, h1, hq⟩ := h
    refine ⟨_, (pssc_one (psc_ret (pec_and (pec_call (ok_is_integer A) (hr.mono (by decide)) (pac_cons (pec_var (i := 0)) pac_nil)) (pec_one (pec_chain (rd := (II0 fun i j => .bl (decide (i ≤ j)))) (rd' := (II0 fun i j => .bl (decide (i < j)))) op_le op_lt (fitI0 fun _ _ _ => rfl) (fitI0 fun _ _ _ => rfl) pec_int (pec_var (i := 0)) (pec_var (i := 1))))))), ?_⟩
    refine ⟨i, rfl, fun _ => ?_, fun h => nomatch h⟩
    refine dec_t (Q := fun b => (b = true → _) ∧ (b = false → _)) h0 ⟨fun _ => dec_t (Q := fun b => Qd (.bl b)) h1 hq, fun h => nomatch h⟩
end
end K75
set_option Elab.async false
set_option linter.all false
set_option maxRecDepth 100000
set_option maxHeartbeats 1000000
namespace K75
open PySem PySem.Spec PyProof.Rows L2 Cc Ec
section
variable {P : Program} {w : World} {K : PySem.W.Frag} {mg : Str → Option Value} {base : Heap}
/-! need_point: slots 0 curve, 1 value, 2 at, 3 letter -/
def sp_need_point : Spd := fun ds Q => ∃ (V : Cv) (P : G V.C), ds = [encC V, encP P.1] ∧ Q .non
theorem sc_need_point : FnScope ["curve", "value", "at", "letter"] ["curve", "value"] (defScope (top 44)) := ⟨rfl, rfl, rfl, by decide +kernel, rfl, by decide +kernel, by decide +kernel⟩
theorem ok_need_point (A : Kt K mg base) : FnAt P w K mg base 3 "need_point" ["curve", "value"] sp_need_point := by
  obtain ⟨fd, F⟩ := A.fn 26 (d := dd "need_point" 44)
  refine fn_mk (A.glo 26) F sc_need_point (by decide) (fun _ _ _ _ _ _ us hl => match us, hl with | [_, _], _ => rfl) ?_ ?_
  · intro ds Q h
    obtain ⟨V, PP, rfl, hq⟩ := h
    rfl
  · intro E cdv A' outer s H Ex ds Qd hr h
    obtain ⟨V, PP, rfl, hq⟩ := h
    refine ⟨_, (pssc_cons (psc_if (PWc.pt (pwc_or (ptc_not (ptc_val (pec_isi (T := "tuple") (A.free 100) (A.free 107) rfl (pec_var (i := 1))))) (pwc_or1 (pte_notInI (pec_lenc (A.free 101) (pac_cons (pec_var (i := 1)) pac_nil)) (pec_tup (pac_cons pec_int (pac_cons pec_int pac_nil))))))) (pssc_one psc_never) pssc_nil)
      (pssc_cons (psc_forE .never rfl (A.free 98) (pac_cons (pec_var (i := 1)) pac_nil) (pgc_tup rfl (pgsc_cons (pgc_name (i := 2) sc_need_point.nd) (pgsc_cons (pgc_name (i := 3) sc_need_point.nd) pgsc_nil))) (pssc_one (psc_if (ptc_not (ptc_val (pec_call (ok_is_below A) (hr.mono (by decide)) (pac_cons (pec_var (i := 3)) (pac_cons (pec_item (k := 0) (pec_var (i := 0))) pac_nil))))) (pssc_one psc_never) pssc_nil)))
      (pssc_one (psc_if (PWc.pt (pwc_and (pte_eq hr.units (pec_lenc (A.free 101) (pac_cons (pec_var (i := 1)) pac_nil)) pec_int) (pwc_and1 (ptc_not (ptc_val (pec_call (ok_is_on A) (hr.mono (by decide)) (pac_cons (pec_var (i := 0)) (pac_cons (pec_item (k := 0) (pec_var (i := 1))) (pac_cons (pec_item (k := 1) (pec_var (i := 1))) pac_nil))))))))) (pssc_one psc_never) pssc_nil)))), ?_⟩
    obtain ⟨P, hP⟩ := PP
    match P, hP with
    | none, hP =>
      refine ⟨"tuple", true, rfl, k_tt, (fun h => nomatch h), fun _ => ⟨rfl, [0, 2], rfl, fun h => absurd h (by simp), fun _ => ?_⟩⟩
      refine ⟨fun _ ρ => ∃ s1 s2, ρ = [.d (encC V), .d (encP none), s1, s2], ⟨_, _, rfl⟩, fun i x ρ hx _ => (nomatch hx), ?_⟩
      rintro ρ ⟨s1, s2, rfl⟩
      exact ⟨fun h => absurd h (by decide), fun _ => ⟨(fun h => nomatch h), fun _ => hq⟩⟩
    | some (x, y), hP =>
      refine ⟨"tuple", true, rfl, k_tt, (fun h => nomatch h), fun _ => ⟨rfl, [0, 2], rfl, fun h => absurd h (by simp), fun _ => ?_⟩⟩
      refine ⟨fun _ ρ => ∃ s1 s2, ρ = [.d (encC V), .d (encP (some (x, y))), s1, s2], ⟨_, _, rfl⟩, ?_, ?_⟩
      · rintro i d ρ hd ⟨s1, s2, rfl⟩
        have e : ∃ z : Zp V.p, d = .int z.v := by
          match i, hd with
          | 0, hd => exact ⟨x, (Option.some.inj hd).symm⟩
          | 1, hd => exact ⟨y, (Option.some.inj hd).symm⟩
          | _ + 2, hd => cases hd
        obtain ⟨z, rfl⟩ := e
        exact ⟨rfl, _, _, rfl, z.lo, z.hi, (fun h => nomatch h), fun _ => ⟨_, _, rfl⟩⟩
      · rintro ρ ⟨s1, s2, rfl⟩
        exact ⟨fun _ => ⟨V, x, y, rfl, hP, (fun h => nomatch h), fun _ => hq⟩, fun h => absurd h (by simp)⟩
/-! is_point: slots 0 curve, 1 value -/
def sp_is_point : Spd := fun ds Q => ∃ (V : Cv) (P : G V.C), ds = [encC V, encP P.1] ∧ Q (.bl true)
theorem sc_is_point : FnScope ["curve", "value"] ["curve", "value"] (defScope (top 45)) := ⟨rfl, rfl, rfl, by decide +kernel, rfl, by decide +kernel, by decide +kernel⟩
theorem ok_is_point (A : Kt K mg base) : FnAt P w K mg base 4 "is_point" ["curve", "value"] sp_is_point := by
  obtain ⟨fd, F⟩ := A.fn 27 (d := dd "is_point" 45)
  refine fn_mk (A.glo 27) F sc_is_point (by decide) (fun _ _ _ _ _ _ us hl => match us, hl with | [_, _], _ => rfl) ?_ ?_
  · intro ds Q h
    obtain ⟨V, PP, rfl, hq⟩ := h
    rfl
  · intro E cdv A' outer s H Ex ds Qd hr h
    obtain ⟨V, PP, rfl, hq⟩ := h
    refine ⟨_, (pssc_cons (psc_try (pssc_one (psc_expr (pec_call (ok_need_point A) (hr.mono (by decide)) (pac_cons (pec_var (i := 0)) (pac_cons (pec_var (i := 1)) pac_nil))))))
      (pssc_one (psc_ret pec_bl))), ?_⟩
    exact ⟨V, PP, rfl, hq⟩
/-! opposite: slots 0 curve, 1 point -/
def sp_opposite : Spd := fun ds Q => ∃ (V : Cv) (P : G V.C), ds = [encC V, encP P.1] ∧ Q (encP (-P).1)
theorem sc_opposite : FnScope ["curve", "point"] ["curve", "point"] (defScope (top 46)) := ⟨rfl, rfl, rfl, by decide +kernel, rfl, by decide +kernel, by decide +kernel⟩
theorem ok_opposite (A : Kt K mg base) : FnAt P w K mg base 1 "opposite" ["curve", "point"] sp_opposite := by
  obtain ⟨fd, F⟩ := A.fn 28 (d := dd "opposite" 46)
  refine fn_mk (A.glo 28) F sc_opposite (by decide) (fun _ _ _ _ _ _ us hl => match us, hl with | [_, _], _ => rfl) ?_ ?_
  · intro ds Q h
    obtain ⟨V, P, rfl, hq⟩ := h
    rfl
  · intro E cdv A' outer s H Ex ds Qd hr h
    obtain ⟨V, P, rfl, hq⟩ := h
    refine ⟨_, (pssc_cons (psc_if (pte_eq hr.units (pec_var (i := 1)) (pec_tup pac_nil)) (pssc_one (psc_ret (pec_tup pac_nil))) pssc_nil)
      (pssc_one (psc_ret (pec_tup (pac_cons (pec_item (k := 0) (pec_var (i := 1))) (pac_cons (pec_mod (pec_neg (pec_item (k := 1) (pec_var (i := 1)))) (pec_item (k := 0) (pec_var (i := 0)))) pac_nil)))))), ?_⟩
    obtain ⟨P, hP⟩ := P
    match P, hP with
    | none, hP => exact ⟨rfl, [], [], rfl, rfl, fun _ => ⟨rfl, hq⟩, (fun h => nomatch h)⟩
    | some (x, y), hP =>
      refine ⟨rfl, [x.v, y.v], [], rfl, rfl, fun h => absurd h (by simp), fun _ => ⟨ppos V.p, rfl, ?_⟩⟩
      exact hq
/-! are_opposite: slots 0 curve, 1 one, 2 other -/
def sp_are_opposite : Spd := fun ds Q => ∃ (V : Cv) (x y x2 y2 : Zp V.p), ds = [encC V, encP (some (x, y)), encP (some (x2, y2))] ∧ Q (.bl (decide (x = x2 ∧ y + y2 = 0)))
theorem sc_are_opposite : FnScope ["curve", "one", "other"] ["curve", "one", "other"] (defScope (top 47)) := ⟨rfl, rfl, rfl, by decide +kernel, rfl, by decide +kernel, by decide +kernel⟩
theorem ok_are_opposite (A : Kt K mg base) : FnAt P w K mg base 1 "are_opposite" ["curve", "one", "other"] sp_are_opposite := by
  obtain ⟨fd, F⟩ := A.fn 29 (d := dd "are_opposite" 47)
  refine fn_mk (A.glo 29) F sc_are_opposite (by decide) (fun _ _ _ _ _ _ us hl => match us, hl with | [_, _, _], _ => rfl) ?_ ?_
  · intro ds Q h
    obtain ⟨V, x, y, x2, y2, rfl, hq⟩ := h
    rfl
  · intro E cdv A' outer s H Ex ds Qd hr h
    obtain ⟨V, x, y, x2, y2, rfl, hq⟩ := h
    refine ⟨_, (pssc_one (psc_ret (pec_and (pec_eq hr.units (pec_item (k := 0) (pec_var (i := 1))) (pec_item (k := 0) (pec_var (i := 2)))) (pec_one (pec_eq hr.units (pec_mod (pec_addI (pec_item (k := 1) (pec_var (i := 1))) (pec_item (k := 1) (pec_var (i := 2)))) (pec_item (k := 0) (pec_var (i := 0)))) pec_int))))), ?_⟩
    refine ⟨fun h => ⟨ppos V.p, ?_⟩, fun h => ?_⟩
    · have h1 : x = x2 := Ec.Zp.ext (of_decide_eq_true h)
      have e : decide ((y.v + y2.v) % (V.p : Int) = 0) = decide (x = x2 ∧ y + y2 = 0) := by
        rw [decide_eq_decide, mod_zero, fi_add', fi_val, fi_val]
        exact ⟨fun q => ⟨h1, q⟩, fun q => q.2⟩
      show Qd (.bl (decide ((y.v + y2.v) % (V.p : Int) = 0)))
      rw [e]; exact hq
    · have h1 : ¬ x = x2 := fun q => (of_decide_eq_false h) (by rw [q])
      rw [decide_eq_false (fun q => h1 q.1)] at hq
      exact hq
/-! inverse: slots 0 p, 1 number, 2 one, 3 other, 4 first, 5 second, 6 part -/
def sp_inverse : Spd := fun ds Q => ∃ (p : Nat) (hp : Prm p) (hb : Bd p) (i : Int), ds = [.int p, .int i] ∧ i.natAbs < 2 ^ 1000 ∧ fi p i ≠ 0 ∧ Q (.int ((fi p i)⁻¹).v)
theorem euclid_step {P one other first second : Int} (h0 : 0 < other) (h1 : 0 ≤ one) (h : (second.natAbs : Int) * one + first.natAbs * other ≤ P) :
    ((first - one / other * second).natAbs : Int) * other + second.natAbs * (one - one / other * other) ≤ P := by
  have hd : 0 ≤ one / other := Int.ediv_nonneg h1 (by omega)
  have h2 : ((first - one / other * second).natAbs : Int) ≤ first.natAbs + one / other * second.natAbs := by
    have a := Int.natAbs_sub_le first (one / other * second)
    rw [Int.natAbs_mul] at a
    have e : ((one / other).natAbs : Int) = one / other := Int.natAbs_of_nonneg hd
    have b : ((first - one / other * second).natAbs : Int) ≤ ((first.natAbs + (one / other).natAbs * second.natAbs : Nat) : Int) := Int.ofNat_le.mpr a
    rw [Int.natCast_add, Int.natCast_mul, e] at b
    exact b
  have h3 := Int.mul_le_mul_of_nonneg_right h2 (Int.le_of_lt h0)
  rw [Int.add_mul] at h3
  rw [Int.mul_sub]
  have e1 : one / other * (second.natAbs : Int) * other = (second.natAbs : Int) * (one / other * other) := by
    rw [Int.mul_comm (one / other) (second.natAbs : Int), Int.mul_assoc]
  rw [e1] at h3
  omega
theorem gcd_step (a b : Int) : Int.gcd (a % b) b = Int.gcd a b := by
  have e : a % b = a + b * (-(a / b)) := by
    have := Int.mul_ediv_add_emod a b
    rw [Int.mul_neg]; omega
  rw [e]
  exact Int.gcd_add_mul_left_left b a (-(a / b))
theorem nat_le_of_mul {a c : Nat} {b P : Int} (hb : 1 ≤ b) (h : (a : Int) * b + c ≤ P) : (a : Int) ≤ P := by
  have := Int.mul_le_mul_of_nonneg_left hb (show (0 : Int) ≤ a by omega)
  omega
theorem sc_inverse : FnScope ["p", "number", "one", "other", "first", "second", "part"] ["p", "number"] (defScope (top 26)) := ⟨rfl, rfl, rfl, by decide +kernel, rfl, by decide +kernel, by decide +kernel⟩
theorem ok_inverse (A : Kt K mg base) : FnAt P w K mg base 1 "inverse" ["p", "number"] sp_inverse := by
  obtain ⟨fd, F⟩ := A.fn 15 (d := dd "inverse" 26)
  refine fn_mk (A.glo 15) F sc_inverse (by decide) (fun _ _ _ _ _ _ us hl => match us, hl with | [_, _], _ => rfl) ?_ ?_
  · intro ds Q h
    obtain ⟨p, hp, hb, i, rfl, hi, h0, hq⟩ := h
    rfl
  · intro E cdv A' outer s H Ex ds Qd hr h
    obtain ⟨p, hp, hb, i, rfl, hi, h0, hq⟩ := h
    refine ⟨_, (pssc_cons (psc_par (i := 2) (j := 3) rfl sc_inverse.nd (pac_cons (pec_var (i := 0)) (pac_cons (pec_mod (pec_var (i := 1)) (pec_var (i := 0))) pac_nil)))
      (pssc_cons (psc_asg (pec_tup (pac_cons pec_int (pac_cons pec_int pac_nil))) (pgc_tup rfl (pgsc_cons (pgc_name (i := 4) sc_inverse.nd) (pgsc_cons (pgc_name (i := 5) sc_inverse.nd) pgsc_nil))))
      (pssc_cons (psc_while .never (pte_ne hr.units (pec_var (i := 3)) pec_int) (pssc_cons (psc_set (i := 6) sc_inverse.nd (pec_div (pec_var (i := 2)) (pec_var (i := 3))))
      (pssc_cons (psc_par (i := 2) (j := 3) rfl sc_inverse.nd (pac_cons (pec_var (i := 3)) (pac_cons (pec_sub (pec_var (i := 2)) (pec_mul (pec_var (i := 6)) (pec_var (i := 3)))) pac_nil)))
      (pssc_one (psc_par (i := 4) (j := 5) rfl sc_inverse.nd (pac_cons (pec_var (i := 5)) (pac_cons (pec_sub (pec_var (i := 4)) (pec_mul (pec_var (i := 6)) (pec_var (i := 5)))) pac_nil)))))))
      (pssc_one (psc_ret (pec_mod (pec_var (i := 4)) (pec_var (i := 0)))))))), ?_⟩
    refine ⟨ppos p, rfl, rfl, ?_⟩
    have pp := ppos p
    have hp2 := hp.pr.1
    have hb2 := hb.h
    refine ⟨fun m ρ => ∃ (one other first second : Int) (s6 : Sl), ρ = [.d (.int p), .d (.int i), .d (.int one), .d (.int other), .d (.int first), .d (.int second), s6] ∧ m = other.toNat ∧ 0 ≤ other ∧ other < one ∧ one ≤ p ∧ fi p i * fi p first = fi p one ∧ fi p i * fi p second = fi p other ∧ (second.natAbs : Int) * one + first.natAbs * other ≤ p ∧ Int.gcd one other = 1, ?_, ?_⟩
    · have m0 := Int.emod_nonneg i (show (p : Int) ≠ 0 by omega)
      have m1 := Int.emod_lt_of_pos i pp
      refine ⟨_, p, i % p, 0, 1, _, rfl, rfl, m0, m1, Int.le_refl _, ?_, ?_, by simp, ?_⟩
      · rw [fi0, Lean.Grind.Semiring.mul_zero]; exact (fi_zero_iff.mpr (Int.dvd_refl _)).symm
      · rw [fi1, Lean.Grind.Semiring.mul_one, fi_mod]
      · have hne : i % (p : Int) ≠ 0 := fun z => h0 (mod_zero.mp z)
        have hd : Int.gcd p (i % p) ∣ p := by
          have := Int.gcd_dvd_left (a := (p : Int)) (b := i % p)
          exact Int.natCast_dvd_natCast.mp this
        rcases hp.pr.2 _ hd with q | q
        · exact q
        · exfalso
          have hd2 : (p : Int) ∣ i % p := by
            have := Int.gcd_dvd_right (a := (p : Int)) (b := i % p)
            rw [q] at this
            exact this
          have := Int.le_of_dvd (by omega) hd2
          omega
    · rintro m ρ ⟨one, other, first, second, s6, rfl, rfl, g0, g1, g2, g3, g4, g5, g6⟩
      refine ⟨fun hb => ?_, fun hb => ?_⟩
      · have hne : other ≠ 0 := by simpa using hb
        have hpos : 0 < other := by omega
        have hs : (second.natAbs : Int) ≤ p := by
          have : ((first.natAbs : Int) * other) = ((first.natAbs * other.natAbs : Nat) : Int) := by rw [Int.natCast_mul, Int.natAbs_of_nonneg g0]
          rw [this] at g5
          exact nat_le_of_mul (by omega) g5
        have hr := Int.mul_ediv_add_emod one other
        have r0 : 0 ≤ one % other := Int.emod_nonneg _ hne
        have r1 : one % other < other := Int.emod_lt_of_pos _ hpos
        have er : one - one / other * other = one % other := by rw [Int.mul_comm]; omega
        have hd0 : 0 ≤ one / other := Int.ediv_nonneg (by omega) g0
        have hd1 : one / other ≤ one := Int.ediv_le_self _ (by omega)
        haveI z1 : Sz 61 other := ⟨by omega⟩
        haveI z2 : Sz 61 (one / other) := ⟨by omega⟩
        haveI z3 : Sz 61 second := ⟨by omega⟩
        refine ⟨cdW hpos, cmW, cmW, ?_⟩
        refine ⟨_, ?_, other, one - one / other * other, second, first - one / other * second, _, rfl, rfl, by omega, by omega, by omega, g4, ?_, euclid_step hpos (by omega) g5, ?_⟩
        · show (one - one / other * other).toNat < _; omega
        · rw [fi_sub', fi_mul', fi_sub', fi_mul', ← g3, ← g4]; grind
        · rw [er, Int.gcd_comm, gcd_step, g6]
      · have hz : other = 0 := by simpa using hb
        subst hz
        refine ⟨pp, ?_⟩
        have one1 : one = 1 := by
          rw [Int.gcd_zero_right] at g6
          omega
        subst one1
        refine toF hq ?_
        exact (zp_inv_unique g3).symm
/-! slope: slots 0 curve, 1 one, 2 other, 3 p, 4 a, 5 b -/
def sp_slope : Spd := fun ds Q => ∃ (V : Cv) (x y x2 y2 : Zp V.p), ds = [encC V, encP (some (x, y)), encP (some (x2, y2))] ∧ On V.C.a V.C.b (some (x, y)) ∧ On V.C.a V.C.b (some (x2, y2)) ∧ ¬ (x = x2 ∧ y + y2 = 0) ∧ Q (.int (slp V.C.a x y x2 y2).v)
theorem sc_slope : FnScope ["curve", "one", "other", "p", "a", "b"] ["curve", "one", "other"] (defScope (top 48)) := ⟨rfl, rfl, rfl, by decide +kernel, rfl, by decide +kernel, by decide +kernel⟩
theorem ok_slope (A : Kt K mg base) : FnAt P w K mg base 2 "slope" ["curve", "one", "other"] sp_slope := by
  obtain ⟨fd, F⟩ := A.fn 30 (d := dd "slope" 48)
  refine fn_mk (A.glo 30) F sc_slope (by decide) (fun _ _ _ _ _ _ us hl => match us, hl with | [_, _, _], _ => rfl) ?_ ?_
  · intro ds Q h
    obtain ⟨V, x, y, x2, y2, rfl, h, h', n, hq⟩ := h
    rfl
  · intro E cdv A' outer s H Ex ds Qd hr h
    obtain ⟨V, x, y, x2, y2, rfl, h, h', n, hq⟩ := h
    refine ⟨_, (pssc_cons (psc_asg (pec_var (i := 0)) (pgc_tup rfl (pgsc_cons (pgc_name (i := 3) sc_slope.nd) (pgsc_cons (pgc_name (i := 4) sc_slope.nd) (pgsc_cons (pgc_name (i := 5) sc_slope.nd) pgsc_nil)))))
      (pssc_cons (psc_if (pte_eq hr.units (pec_item (k := 0) (pec_var (i := 1))) (pec_item (k := 0) (pec_var (i := 2)))) (pssc_one (psc_ret (pec_mod (pec_mul (pec_addI (pec_mul (pec_mul pec_int (pec_item (k := 0) (pec_var (i := 1)))) (pec_item (k := 0) (pec_var (i := 1)))) (pec_var (i := 4))) (pec_call (ok_inverse A) (hr.mono (by decide)) (pac_cons (pec_var (i := 3)) (pac_cons (pec_mul pec_int (pec_item (k := 1) (pec_var (i := 1)))) pac_nil)))) (pec_var (i := 3))))) pssc_nil)
      (pssc_one (psc_ret (pec_mod (pec_mul (pec_sub (pec_item (k := 1) (pec_var (i := 2))) (pec_item (k := 1) (pec_var (i := 1)))) (pec_call (ok_inverse A) (hr.mono (by decide)) (pac_cons (pec_var (i := 3)) (pac_cons (pec_sub (pec_item (k := 0) (pec_var (i := 2))) (pec_item (k := 0) (pec_var (i := 1)))) pac_nil)))) (pec_var (i := 3))))))), ?_⟩
    refine ⟨rfl, fun hb => ?_, fun hb => ?_⟩
    · have h1 : x = x2 := Ec.Zp.ext (of_decide_eq_true hb)
      subst h1
      have hy : y + y2 ≠ 0 := fun q => n ⟨rfl, q⟩
      have h2 := V.C.h2
      have ey : y = y2 := by
        have h3 : y * y = x * x * x + V.C.a * x + V.C.b := h
        have h4 : y2 * y2 = x * x * x + V.C.a * x + V.C.b := h'
        grind
      subst ey
      have e2 : fi V.p (2 * y.v) = 2 * y := by rw [fi_mul', fi_val, fi2]
      refine ⟨cmW, cmW, cmW, V.p, inferInstance, inferInstance, 2 * y.v, rfl, ?_, ?_, ?_⟩
      · have := (inferInstance : Sz (8 + 61) (2 * y.v)).h
        exact Nat.lt_of_lt_of_le this (Nat.pow_le_pow_right (by decide) (by decide))
      · rw [e2]; grind
      · rw [e2]
        refine ⟨cmW, ppos V.p, toF hq ?_⟩
        simp only [fi_add', fi_mul', fi_val, fi3]
        exact (if_pos rfl).symm
    · have h1 : x ≠ x2 := fun q => (of_decide_eq_false hb) (by rw [q])
      have e2 : fi V.p (x2.v - x.v) = x2 - x := by rw [fi_sub', fi_val, fi_val]
      refine ⟨V.p, inferInstance, inferInstance, x2.v - x.v, rfl, ?_, ?_, ?_⟩
      · have := (inferInstance : Sz (61 + 61 + 1) (x2.v - x.v)).h
        exact Nat.lt_of_lt_of_le this (Nat.pow_le_pow_right (by decide) (by decide))
      · rw [e2]; grind
      · rw [e2]
        refine ⟨cmW, ppos V.p, toF hq ?_⟩
        simp only [fi_sub', fi_mul', fi_val]
        exact (if_neg h1).symm
/-! plus: slots 0 curve, 1 one, 2 other, 3 x, 4 p, 5 s -/
def sp_plus : Spd := fun ds Q => ∃ (V : Cv) (P R : G V.C), ds = [encC V, encP P.1, encP R.1] ∧ Q (encP (P + R).1)
theorem sc_plus : FnScope ["curve", "one", "other", "x", "p", "s"] ["curve", "one", "other"] (defScope (top 49)) := ⟨rfl, rfl, rfl, by decide +kernel, rfl, by decide +kernel, by decide +kernel⟩
theorem ok_plus (A : Kt K mg base) : FnAt P w K mg base 3 "plus" ["curve", "one", "other"] sp_plus := by
  obtain ⟨fd, F⟩ := A.fn 31 (d := dd "plus" 49)
  refine fn_mk (A.glo 31) F sc_plus (by decide) (fun _ _ _ _ _ _ us hl => match us, hl with | [_, _, _], _ => rfl) ?_ ?_
  · intro ds Q h
    obtain ⟨V, P, R, rfl, hq⟩ := h
    rfl
  · intro E cdv A' outer s H Ex ds Qd hr h
    obtain ⟨V, P, R, rfl, hq⟩ := h
    refine ⟨_, (pssc_cons (psc_if (pte_eq hr.units (pec_var (i := 1)) (pec_tup pac_nil)) (pssc_one (psc_ret (pec_var (i := 2)))) pssc_nil)
      (pssc_cons (psc_if (pte_eq hr.units (pec_var (i := 2)) (pec_tup pac_nil)) (pssc_one (psc_ret (pec_var (i := 1)))) pssc_nil)
      (pssc_cons (psc_if (ptc_val (pec_call (ok_are_opposite A) (hr.mono (by decide)) (pac_cons (pec_var (i := 0)) (pac_cons (pec_var (i := 1)) (pac_cons (pec_var (i := 2)) pac_nil))))) (pssc_one (psc_ret (pec_tup pac_nil))) pssc_nil)
      (pssc_cons (psc_par (i := 4) (j := 5) rfl sc_plus.nd (pac_cons (pec_item (k := 0) (pec_var (i := 0))) (pac_cons (pec_call (ok_slope A) (hr.mono (by decide)) (pac_cons (pec_var (i := 0)) (pac_cons (pec_var (i := 1)) (pac_cons (pec_var (i := 2)) pac_nil)))) pac_nil)))
      (pssc_cons (psc_set (i := 3) sc_plus.nd (pec_mod (pec_sub (pec_sub (pec_mul (pec_var (i := 5)) (pec_var (i := 5))) (pec_item (k := 0) (pec_var (i := 1)))) (pec_item (k := 0) (pec_var (i := 2)))) (pec_var (i := 4))))
      (pssc_one (psc_ret (pec_tup (pac_cons (pec_var (i := 3)) (pac_cons (pec_mod (pec_sub (pec_mul (pec_var (i := 5)) (pec_sub (pec_item (k := 0) (pec_var (i := 1))) (pec_var (i := 3)))) (pec_item (k := 1) (pec_var (i := 1)))) (pec_var (i := 4))) pac_nil)))))))))), ?_⟩
    obtain ⟨P, hP⟩ := P
    obtain ⟨R, hR⟩ := R
    match P, R, hP, hR with
    | none, R, hP, hR => exact ⟨rfl, [], [], rfl, rfl, fun _ => hq, (fun h => nomatch h)⟩
    | some (x, y), none, hP, hR => exact ⟨rfl, [x.v, y.v], [], rfl, rfl, fun h => absurd h (by simp), fun _ => ⟨rfl, [], [], rfl, rfl, fun _ => hq, (fun h => nomatch h)⟩⟩
    | some (x, y), some (x2, y2), hP, hR =>
      refine ⟨rfl, [x.v, y.v], [], rfl, rfl, fun h => absurd h (by simp), fun _ => ⟨rfl, [x2.v, y2.v], [], rfl, rfl, fun h => absurd h (by simp), fun _ => ⟨V, x, y, x2, y2, rfl, fun hb => ?_, fun hb => ?_⟩⟩⟩
      · have n := of_decide_eq_true hb
        have e : (⟨some (x, y), hP⟩ + ⟨some (x2, y2), hR⟩ : G V.C).1 = none := add_opp n.1 n.2
        rw [e] at hq
        exact ⟨rfl, hq⟩
      · have n := of_decide_eq_false hb
        refine ⟨V, x, y, x2, y2, rfl, hP, hR, n, cmW, ppos V.p, cmW, ppos V.p, rfl, ?_⟩
        have s := slp_ok V.C.h2 hP hR n
        refine toP hq (add_eq V.C.h2 hP hR n s) ?_ ?_
        · simp only [fi_sub', fi_mul', fi_val]
        · simp only [fi_sub', fi_mul', fi_val, fi_mod]
/-! times: slots 0 curve, 1 point, 2 number, 3 found, 4 power -/
def sp_times : Spd := fun ds Q => ∃ (V : Cv) (P : G V.C) (k : Nat), ds = [encC V, encP P.1, .int k] ∧ k < 2 ^ 200 ∧ Q (encP (nm k P).1)
theorem sc_times : FnScope ["curve", "point", "number", "found", "power"] ["curve", "point", "number"] (defScope (top 50)) := ⟨rfl, rfl, rfl, by decide +kernel, rfl, by decide +kernel, by decide +kernel⟩
theorem ok_times (A : Kt K mg base) : FnAt P w K mg base 4 "times" ["curve", "point", "number"] sp_times := by
  obtain ⟨fd, F⟩ := A.fn 32 (d := dd "times" 50)
  refine fn_mk (A.glo 32) F sc_times (by decide) (fun _ _ _ _ _ _ us hl => match us, hl with | [_, _, _], _ => rfl) ?_ ?_
  · intro ds Q h
    obtain ⟨V, P, k, rfl, hk, hq⟩ := h
    rfl
  · intro E cdv A' outer s H Ex ds Qd hr h
    obtain ⟨V, P, k, rfl, hk, hq⟩ := h
    refine ⟨_, (pssc_cons (psc_if (pte_lt (pec_var (i := 2)) pec_int) (pssc_one psc_never) pssc_nil)
      (pssc_cons (psc_par (i := 3) (j := 4) rfl sc_times.nd (pac_cons (pec_tup pac_nil) (pac_cons (pec_var (i := 1)) pac_nil)))
      (pssc_cons (psc_while .never (pte_gt (pec_var (i := 2)) pec_int) (pssc_cons (psc_if (pte_eq hr.units (pec_mod (pec_var (i := 2)) pec_int) pec_int) (pssc_one (psc_set (i := 3) sc_times.nd (pec_call (ok_plus A) (hr.mono (by decide)) (pac_cons (pec_var (i := 0)) (pac_cons (pec_var (i := 3)) (pac_cons (pec_var (i := 4)) pac_nil)))))) pssc_nil)
      (pssc_cons (psc_divI (i := 2) sc_times.nd pec_int)
      (pssc_one (psc_if (pte_gt (pec_var (i := 2)) pec_int) (pssc_one (psc_set (i := 4) sc_times.nd (pec_call (ok_plus A) (hr.mono (by decide)) (pac_cons (pec_var (i := 0)) (pac_cons (pec_var (i := 4)) (pac_cons (pec_var (i := 4)) pac_nil)))))) pssc_nil)))))
      (pssc_one (psc_ret (pec_var (i := 3))))))), ?_⟩
    refine ⟨fun hb => absurd (of_decide_eq_true hb) (by omega), fun _ => ⟨rfl, ?_⟩⟩
    refine ⟨fun m ρ => ∃ (f q : G V.C), ρ = [.d (encC V), .d (encP P.1), .d (.int (m : Nat)), .d (encP f.1), .d (encP q.1)] ∧ m < 2 ^ 200 ∧ (m = 0 → f = nm k P) ∧ (0 < m → f + nm m q = nm k P), ⟨k, 0, P, rfl, hk, fun h => by rw [h]; rfl, fun _ => gzero_add _⟩, ?_⟩
    rintro m ρ ⟨f, q, rfl, hm, e0, e1⟩
    refine ⟨fun hb => ?_, fun hb => ?_⟩
    · have hpos : 0 < m := by have := of_decide_eq_true hb; omega
      have e1 := e1 hpos
      have ed : ((m : Nat) : Int) / 2 = ((m / 2 : Nat) : Int) := by omega
      have tail : ∀ (f' : G V.C), f' + nm (m / 2) (q + q) = nm k P → (m / 2 = 0 → f' = nm k P) → (dSeq (dAug 2 (dC (.int 2)) (II CDivW fun i j => .int (i / j))) (dIfS (dB (dOp (II0 fun i j => .bl (decide (j < i))) (dVar 2) (dC (.int 0)))) (dSet 4 (dCall sp_plus (dCons (dVar 0) (dCons (dVar 4) (dCons (dVar 4) dNil))))) dNext))
          ⟨fun ρ' => ∃ m', m' < m ∧ ∃ (f q : G V.C), ρ' = [.d (encC V), .d (encP P.1), .d (.int (m' : Nat)), .d (encP f.1), .d (encP q.1)] ∧ m' < 2 ^ 200 ∧ (m' = 0 → f = nm k P) ∧ (0 < m' → f + nm m' q = nm k P), Qd, fun ρ => dRet (dVar 3) ⟨fun _ => Qd .non, Qd, fun _ => False, fun _ => False⟩ ρ, fun ρ' => ∃ m', m' < m ∧ ∃ (f q : G V.C), ρ' = [.d (encC V), .d (encP P.1), .d (.int (m' : Nat)), .d (encP f.1), .d (encP q.1)] ∧ m' < 2 ^ 200 ∧ (m' = 0 → f = nm k P) ∧ (0 < m' → f + nm m' q = nm k P)⟩
          [.d (encC V), .d (encP P.1), .d (.int (m : Nat)), .d (encP f'.1), .d (encP q.1)] := by
        intro f' hf h0
        refine ⟨cdW (by decide), fun hb => ?_, fun hb => ?_⟩
        · refine ⟨V, q, q, rfl, m / 2, by omega, f', q + q, by rw [← ed]; rfl, by omega, h0, fun _ => hf⟩
        · have : m / 2 = 0 := by
            have := of_decide_eq_false hb
            omega
          exact ⟨m / 2, by omega, f', q, by rw [← ed]; rfl, by omega, h0, fun h => by omega⟩
      have hq2 : nm m q = nm (m % 2) q + nm (m / 2) (q + q) := by
        rw [← nm_two, ← nm_mul, ← nm_add]
        congr 1
        omega
      refine ⟨(show (0 : Int) < 2 by decide), fun ho => ?_, fun ho => ?_⟩
      · have h1 : m % 2 = 1 := by have := of_decide_eq_true ho; omega
        rw [h1, nm_one] at hq2
        refine ⟨V, f, q, rfl, tail (f + q) ?_ fun h => ?_⟩
        · rw [gadd_assoc, ← hq2, e1]
        · rw [hq2, h, nm_zero, gadd_zero] at e1
          exact e1
      · have h1 : m % 2 = 0 := by have := of_decide_eq_false ho; omega
        rw [h1, nm_zero, gzero_add] at hq2
        exact tail f (by rw [← hq2, e1]) fun h => by omega
    · have : m = 0 := by have := of_decide_eq_false hb; omega
      rw [← e0 this] at hq
      exact hq
end
end K75
set_option Elab.async false
set_option linter.all false
set_option maxRecDepth 100000
set_option maxHeartbeats 1000000
namespace K75
open PySem PySem.Spec PyProof.Rows L2 Cc Ec
section
variable {P : Program} {w : World} {K : PySem.W.Frag} {mg : Str → Option Value} {base : Heap}
/-- a ground with a base of prime order -/
structure Hm where
  V : Cv
  n : Nat
  hn : Prm n
  hb : Bd n
  B : G V.C
  zero : nm n B = 0
  ne : B ≠ 0
instance (h : Hm) : Prm h.n := h.hn
instance (h : Hm) : Bd h.n := h.hb
def encH (h : Hm) : D := .tup [encC h.V, encP h.B.1, .int h.n]
def grow (n : Nat) (a : Nat) (l : List Nat) : Nat := l.foldl (fun a c => (257 * a + c) % n) a
def ptx {p : Nat} : Pt (Zp p) → Str
  | none => "zero"
  | some (x, y) => Txt.join "," [toString x.v, toString y.v]
/-- what is asked of a first point, an open point and a text -/
def wt (h : Hm) (F O : G h.V.C) (t : Str) : Nat := grow h.n 0 (Txt.join " " [ptx F.1, ptx O.1, t]).cps.toList
theorem grow_lt {n : Nat} (hn : 0 < n) : ∀ (l : List Nat) (a : Nat), a < n → grow n a l < n
  | [], a, h => h
  | c :: r, a, h => grow_lt hn r _ (Nat.mod_lt _ hn)
theorem wt_lt (h : Hm) (F O : G h.V.C) (t : Str) : wt h F O t < h.n := grow_lt (by have := h.hn.pr.1; omega) _ _ (by have := h.hn.pr.1; omega)
theorem len_int {x : Int} (h0 : 0 ≤ x) (h : x < 2 ^ 61) : (Str.ofString (toString x)).length ≤ 19 := PyProof.Rows.toString_length_le h0 (by decide) (Int.lt_trans h (by decide))
theorem len_ptx {p : Nat} [hb : Bd p] (P : Pt (Zp p)) : (ptx P).length ≤ 50 := by
  match P with
  | none => show (Str.ofString "zero").length ≤ 50; decide
  | some (x, y) =>
    have h := hb.h
    have h1 := len_int x.lo (by have := x.hi; omega)
    have h2 := len_int y.lo (by have := y.hi; omega)
    have q := StrLaws.join_length_le "," [Str.ofString (toString x.v), Str.ofString (toString y.v)]
    rw [← PySem.StrLaws.glued_eq_join] at q
    have e : (Str.ofString ",").length = 1 := by decide
    simp only [List.map_cons, List.map_nil, List.sum_cons, List.sum_nil, List.length_cons, List.length_nil, e] at q
    show (Builtin.Str.glued _ _).length ≤ 50
    omega
theorem eq_encP {p : Nat} {f : Bool → Bool} {X Y : Pt (Zp p)} {Q : D → Prop} (h : Q (.bl (f (decide (X = Y))))) : EqD f (encP X) (encP Y) Q := by
  match X, Y with
  | none, none => exact ⟨[], [], rfl, rfl, h⟩
  | none, some (x, y) => exact ⟨[], [x.v, y.v], rfl, rfl, h⟩
  | some (x, y), none => exact ⟨[x.v, y.v], [], rfl, rfl, h⟩
  | some (x, y), some (x2, y2) =>
    refine ⟨[x.v, y.v], [x2.v, y2.v], rfl, rfl, ?_⟩
    have e : decide ([x.v, y.v] = [x2.v, y2.v]) = decide (some (x, y) = some (x2, y2)) := by
      rw [decide_eq_decide]
      constructor
      · intro q
        injection q with q1 q2
        injection q2 with q2 _
        rw [Ec.Zp.ext q1, Ec.Zp.ext q2]
      · intro q
        injection q with q
        injection q with q1 q2
        rw [q1, q2]
    rw [e]; exact h
theorem dec_g {V : Cv} {X Y : G V.C} : decide (X.1 = Y.1) = decide (X = Y) := by
  rw [decide_eq_decide]
  exact ⟨fun h => G.ext h, fun h => by rw [h]⟩
/-! base_times: slots 0 ground, 1 number, 2 curve, 3 base, 4 n -/
def sp_base_times : Spd := fun ds Q => ∃ (h : Hm) (k : Nat), ds = [encH h, .int k] ∧ k < 2 ^ 200 ∧ Q (encP (nm k h.B).1)
theorem sc_base_times : FnScope ["ground", "number", "curve", "base", "n"] ["ground", "number"] (defScope (top 52)) := ⟨rfl, rfl, rfl, by decide +kernel, rfl, by decide +kernel, by decide +kernel⟩
theorem ok_base_times (A : Kt K mg base) : FnAt P w K mg base 5 "base_times" ["ground", "number"] sp_base_times := by
  obtain ⟨fd, F⟩ := A.fn 33 (d := dd "base_times" 52)
  refine fn_mk (A.glo 33) F sc_base_times (by decide) (fun _ _ _ _ _ _ us hl => match us, hl with | [_, _], _ => rfl) ?_ ?_
  · intro ds Q h
    obtain ⟨h, k, rfl, hk, hq⟩ := h
    rfl
  · intro E cdv A' outer s H Ex ds Qd hr h
    obtain ⟨h, k, rfl, hk, hq⟩ := h
    refine ⟨_, (pssc_cons (psc_asg (pec_var (i := 0)) (pgc_tup rfl (pgsc_cons (pgc_name (i := 2) sc_base_times.nd) (pgsc_cons (pgc_name (i := 3) sc_base_times.nd) (pgsc_cons (pgc_name (i := 4) sc_base_times.nd) pgsc_nil)))))
      (pssc_one (psc_ret (pec_call (ok_times A) (hr.mono (by decide)) (pac_cons (pec_var (i := 2)) (pac_cons (pec_var (i := 3)) (pac_cons (pec_mod (pec_var (i := 1)) (pec_var (i := 4))) pac_nil))))))), ?_⟩
    have hb := h.hb.h
    have e : ((k : Nat) : Int) % h.n = ((k % h.n : Nat) : Int) := by omega
    have hlt : k % h.n < h.n := Nat.mod_lt _ (by have := h.hn.pr.1; omega)
    refine ⟨rfl, ppos h.n, h.V, h.B, k % h.n, ?_, by omega, ?_⟩
    · rw [← e]
    · rw [nm_mod h.zero]; exact hq
/-! open_key: slots 0 ground, 1 key -/
def sp_open_key : Spd := fun ds Q => ∃ (h : Hm) (k : Nat), ds = [encH h, .int k] ∧ k < 2 ^ 200 ∧ Q (encP (nm k h.B).1)
theorem sc_open_key : FnScope ["ground", "key"] ["ground", "key"] (defScope (top 54)) := ⟨rfl, rfl, rfl, by decide +kernel, rfl, by decide +kernel, by decide +kernel⟩
theorem ok_open_key (A : Kt K mg base) : FnAt P w K mg base 6 "open_key" ["ground", "key"] sp_open_key := by
  obtain ⟨fd, F⟩ := A.fn 35 (d := dd "open_key" 54)
  refine fn_mk (A.glo 35) F sc_open_key (by decide) (fun _ _ _ _ _ _ us hl => match us, hl with | [_, _], _ => rfl) ?_ ?_
  · intro ds Q h
    obtain ⟨h, k, rfl, hk, hq⟩ := h
    rfl
  · intro E cdv A' outer s H Ex ds Qd hr h
    obtain ⟨h, k, rfl, hk, hq⟩ := h
    refine ⟨_, (pssc_one (psc_ret (pec_call (ok_base_times A) (hr.mono (by decide)) (pac_cons (pec_var (i := 0)) (pac_cons (pec_var (i := 1)) pac_nil))))), ?_⟩
    exact ⟨h, k, rfl, hk, hq⟩
/-! is_below_order: slots 0 ground, 1 value -/
def sp_is_below_order : Spd := fun ds Q => ∃ (h : Hm) (k : Nat), ds = [encH h, .int k] ∧ k < h.n ∧ Q (.bl true)
theorem sc_is_below_order : FnScope ["ground", "value"] ["ground", "value"] (defScope (top 53)) := ⟨rfl, rfl, rfl, by decide +kernel, rfl, by decide +kernel, by decide +kernel⟩
theorem ok_is_below_order (A : Kt K mg base) : FnAt P w K mg base 2 "is_below_order" ["ground", "value"] sp_is_below_order := by
  obtain ⟨fd, F⟩ := A.fn 34 (d := dd "is_below_order" 53)
  refine fn_mk (A.glo 34) F sc_is_below_order (by decide) (fun _ _ _ _ _ _ us hl => match us, hl with | [_, _], _ => rfl) ?_ ?_
  · intro ds Q h
    obtain ⟨h, k, rfl, hk, hq⟩ := h
    rfl
  · intro E cdv A' outer s H Ex ds Qd hr h
    obtain ⟨h, k, rfl, hk, hq⟩ := h
    refine ⟨_, (pssc_one (psc_ret (pec_and (pec_call (ok_is_integer A) (hr.mono (by decide)) (pac_cons (pec_var (i := 1)) pac_nil)) (pec_one (pec_chain (rd := (II0 fun i j => .bl (decide (i ≤ j)))) (rd' := (II0 fun i j => .bl (decide (i < j)))) op_le op_lt (fitI0 fun _ _ _ => rfl) (fitI0 fun _ _ _ => rfl) pec_int (pec_var (i := 1)) (pec_item (k := 2) (pec_var (i := 0)))))))), ?_⟩
    refine ⟨k, rfl, fun _ => ?_, fun h => (nomatch h)⟩
    refine dec_t (Q := fun b => (b = true → _) ∧ (b = false → _)) (by omega) ⟨fun _ => dec_t (Q := fun b => Qd (.bl b)) (by omega) hq, fun h => (nomatch h)⟩
/-! numbers_text: slots 0 numbers, 1 between, 2 number -/
def sp_numbers_text : Spd := fun ds Q => ∃ (xs : List Int) (z : Str), ds = [.tup (xs.map D.int), .str z] ∧ (z.length ≤ 100 ∧ xs.length ≤ 100 ∧ ∀ x ∈ xs, 0 ≤ x ∧ x < 2 ^ 61) ∧ Q (.str (Txt.join z (xs.map fun x => Str.ofString (toString x))))
theorem asStrs_of (ys : List Str) : asStrs (ys.map D.str) = some ys := by
  induction ys with
  | nil => rfl
  | cons y r ih => rw [List.map_cons]; simp [asStrs, ih]
theorem sum_le {l : List Str} {m : Nat} (h : ∀ x ∈ l, x.length ≤ m) : (l.map (·.length)).sum ≤ l.length * m := by
  induction l with
  | nil => simp
  | cons x r ih =>
    have h1 := h x (by simp)
    have h2 := ih fun y hy => h y (by simp [hy])
    rw [List.map_cons, List.sum_cons, List.length_cons, Nat.succ_mul]
    omega
theorem log_small {x : Int} (h0 : 0 ≤ x) (h : x < 2 ^ 61) : x.natAbs.log2 < 1920 := by
  have : x.natAbs < 2 ^ 61 := by omega
  exact Nat.lt_of_lt_of_le (PySem.Flt.log2_lt_of (by decide) this) (by decide)
theorem sc_numbers_text : FnScope ["numbers", "between", "number"] ["numbers", "between"] (defScope (top 31)) := ⟨rfl, rfl, rfl, by decide +kernel, rfl, by decide +kernel, by decide +kernel⟩
theorem ok_numbers_text (A : Kt K mg base) : FnAt P w K mg base 1 "numbers_text" ["numbers", "between"] sp_numbers_text := by
  obtain ⟨fd, F⟩ := A.fn 18 (d := dd "numbers_text" 31)
  refine fn_mk (A.glo 18) F sc_numbers_text (by decide) (fun _ _ _ _ _ _ us hl => match us, hl with | [_, _], _ => rfl) ?_ ?_
  · intro ds Q h
    obtain ⟨xs, z, rfl, hz, hq⟩ := h
    rfl
  · intro E cdv A' outer s H Ex ds Qd hr h
    obtain ⟨xs, z, rfl, hz, hq⟩ := h
    refine ⟨_, (pssc_one (psc_ret (pec_join (pec_var (i := 1)) (pec_lcT (iv := 2) rfl sc_numbers_text.nd (pec_var (i := 0)) (blkOk_by (own := [("number", 2)]) rfl) (fun _ _ _ _ _ => pg_name sc_numbers_text.nd rfl (by first | exact .inl rfl | exact .inr rfl)) (fun _ _ _ _ _ => ptsc_nil) (fun _ _ _ _ _ => (pec_strc (A.free 105) (pac_cons (pec_var (i := 2)) pac_nil))))))), ?_⟩
    obtain ⟨h1, h2, h3⟩ := hz
    refine ⟨by rw [List.length_map]; omega, fun i acc => acc = (xs.take i).map (fun x => D.str (Str.ofString (toString x))), rfl, ?_, ?_⟩
    · intro i x acc hi hx ha
      refine ⟨fun _ => ?_, fun h => (nomatch h)⟩
      rw [List.getElem?_map] at hx
      cases e : xs[i]? with
      | none => rw [e] at hx; cases hx
      | some v =>
        rw [e] at hx
        obtain rfl : D.int v = x := Option.some.inj hx
        have hm := h3 v (List.mem_of_getElem? e)
        refine ⟨log_small hm.1 hm.2, ?_⟩
        show acc ++ [D.str (Str.ofString (toString v))] = (xs.take (i + 1)).map _
        rw [ha, List.take_succ, List.map_append, e]
        rfl
    · intro acc ha
      rw [List.length_map, List.take_length] at ha
      refine ⟨xs.map (fun x => Str.ofString (toString x)), ?_, ?_, hq⟩
      · rw [ha, ← asStrs_of, List.map_map]; rfl
      · have := sum_le (l := xs.map fun x => Str.ofString (toString x)) (m := 19) fun y hy => by
          obtain ⟨x, hx, rfl⟩ := List.mem_map.mp hy
          exact len_int (h3 x hx).1 (h3 x hx).2
        rw [List.length_map] at this ⊢
        have h5 := Nat.mul_le_mul h2 h1
        omega
/-! point_text: slots 0 point -/
def sp_point_text : Spd := fun ds Q => ∃ (p : Nat) (hp : Prm p) (hb : Bd p) (X : Pt (Zp p)), ds = [encP X] ∧ Q (.str (ptx X))
theorem sc_point_text : FnScope ["point"] ["point"] (defScope (top 34)) := ⟨rfl, rfl, rfl, by decide +kernel, rfl, by decide +kernel, by decide +kernel⟩
theorem ok_point_text (A : Kt K mg base) : FnAt P w K mg base 2 "point_text" ["point"] sp_point_text := by
  obtain ⟨fd, F⟩ := A.fn 19 (d := dd "point_text" 34)
  refine fn_mk (A.glo 19) F sc_point_text (by decide) (fun _ _ _ _ _ _ us hl => match us, hl with | [_], _ => rfl) ?_ ?_
  · intro ds Q h
    obtain ⟨p, hp, hb, X, rfl, hq⟩ := h
    rfl
  · intro E cdv A' outer s H Ex ds Qd hr h
    obtain ⟨p, hp, hb, X, rfl, hq⟩ := h
    refine ⟨_, (pssc_cons (psc_if (pte_eq hr.units (pec_lenc (A.free 101) (pac_cons (pec_var (i := 0)) pac_nil)) pec_int) (pssc_one (psc_ret (pec_globS rfl (A.str 114).choose_spec))) pssc_nil)
      (pssc_one (psc_ret (pec_call (ok_numbers_text A) (hr.mono (by decide)) (pac_cons (pec_var (i := 0)) (pac_cons pec_str pac_nil)))))), ?_⟩
    match X with
    | none => exact ⟨fun _ => hq, fun h => (nomatch h)⟩
    | some (x, y) =>
      have h := hb.h
      refine ⟨fun h => (nomatch h), fun _ => ⟨[x.v, y.v], ",", rfl, ⟨by decide, by simp, ?_⟩, hq⟩⟩
      intro z hz
      have h1 := x.lo
      have h2 := x.hi
      have h3 := y.lo
      have h4 := y.hi
      simp only [List.mem_cons, List.not_mem_nil, or_false] at hz
      rcases hz with rfl | rfl <;> omega
/-! grown: slots 0 n, 1 number, 2 text, 3 sign -/
def sp_grown : Spd := fun ds Q => ∃ (n a : Nat) (t : Str), ds = [.int n, .int a, .str t] ∧ (0 < n ∧ n < 2 ^ 61 ∧ a < n) ∧ Q (.int (grow n a t.cps.toList : Nat))
theorem sc_grown : FnScope ["n", "number", "text", "sign"] ["n", "number", "text"] (defScope (top 37)) := ⟨rfl, rfl, rfl, by decide +kernel, rfl, by decide +kernel, by decide +kernel⟩
theorem ok_grown (A : Kt K mg base) : FnAt P w K mg base 1 "grown" ["n", "number", "text"] sp_grown := by
  obtain ⟨fd, F⟩ := A.fn 20 (d := dd "grown" 37)
  refine fn_mk (A.glo 20) F sc_grown (by decide) (fun _ _ _ _ _ _ us hl => match us, hl with | [_, _, _], _ => rfl) ?_ ?_
  · intro ds Q h
    obtain ⟨n, a, t, rfl, hn, hq⟩ := h
    rfl
  · intro E cdv A' outer s H Ex ds Qd hr h
    obtain ⟨n, a, t, rfl, hn, hq⟩ := h
    refine ⟨_, (pssc_cons (psc_forS .never rfl (pec_var (i := 2)) (pgc_name (i := 3) sc_grown.nd) (pssc_one (psc_set (i := 1) sc_grown.nd (pec_mod (pec_addI (pec_mul (pec_globI rfl (A.int 112).choose_spec) (pec_var (i := 1))) (pec_ordc (A.free 102) (pac_cons (pec_var (i := 3)) pac_nil))) (pec_var (i := 0))))))
      (pssc_one (psc_ret (pec_var (i := 1))))), ?_⟩
    obtain ⟨h0, h1, h2⟩ := hn
    refine ⟨fun i ρ => ∃ s3, ρ = [.d (.int n), .d (.int (grow n a (t.cps.toList.take i) : Nat)), .d (.str t), s3], ⟨_, rfl⟩, ?_, ?_⟩
    · rintro i k ρ hk ⟨s3, rfl⟩
      have hg := grow_lt h0 (t.cps.toList.take i) a h2
      haveI : Sz 61 ((grow n a (t.cps.toList.take i) : Nat) : Int) := ⟨by omega⟩
      haveI : Sz 61 (257 : Int) := ⟨by decide⟩
      refine ⟨cmW, rfl, by omega, .d (.str ⟨#[k]⟩), ?_⟩
      have e : t.cps.toList[i]? = some k := by simpa using hk
      rw [List.take_succ, e]
      show [_, Sl.d (D.int ((257 * ((grow n a (t.cps.toList.take i) : Nat) : Int) + (k : Nat)) % (n : Nat))), _, _] = _
      have e2 : grow n a (t.cps.toList.take i ++ (some k).toList) = (257 * grow n a (t.cps.toList.take i) + k) % n := by
        show grow n a (t.cps.toList.take i ++ [k]) = _
        unfold grow
        rw [List.foldl_append]; rfl
      rw [e2]
      rfl
    · rintro ρ ⟨s3, rfl⟩
      rw [show t.cps.size = t.cps.toList.length by simp, List.take_length]
      exact hq
/-! digest: slots 0 n, 1 text -/
def sp_digest : Spd := fun ds Q => ∃ (n : Nat) (t : Str), ds = [.int n, .str t] ∧ (0 < n ∧ n < 2 ^ 61) ∧ Q (.int (grow n 0 t.cps.toList : Nat))
theorem sc_digest : FnScope ["n", "text"] ["n", "text"] (defScope (top 38)) := ⟨rfl, rfl, rfl, by decide +kernel, rfl, by decide +kernel, by decide +kernel⟩
theorem ok_digest (A : Kt K mg base) : FnAt P w K mg base 2 "digest" ["n", "text"] sp_digest := by
  obtain ⟨fd, F⟩ := A.fn 21 (d := dd "digest" 38)
  refine fn_mk (A.glo 21) F sc_digest (by decide) (fun _ _ _ _ _ _ us hl => match us, hl with | [_, _], _ => rfl) ?_ ?_
  · intro ds Q h
    obtain ⟨n, t, rfl, hn, hq⟩ := h
    rfl
  · intro E cdv A' outer s H Ex ds Qd hr h
    obtain ⟨n, t, rfl, hn, hq⟩ := h
    refine ⟨_, (pssc_one (psc_ret (pec_call (ok_grown A) (hr.mono (by decide)) (pac_cons (pec_var (i := 0)) (pac_cons pec_int (pac_cons (pec_var (i := 1)) pac_nil)))))), ?_⟩
    exact ⟨n, 0, t, rfl, ⟨hn.1, hn.2, hn.1⟩, hq⟩
/-! digest_of_words: slots 0 n, 1 words -/
def sp_digest_of_words : Spd := fun ds Q => ∃ (n : Nat) (ws : List Str), ds = [.int n, .lst (ws.map D.str)] ∧ (0 < n ∧ n < 2 ^ 61 ∧ (ws.map (·.length)).sum + ws.length ≤ 1000000) ∧ Q (.int (grow n 0 (Txt.join " " ws).cps.toList : Nat))
theorem sc_digest_of_words : FnScope ["n", "words"] ["n", "words"] (defScope (top 39)) := ⟨rfl, rfl, rfl, by decide +kernel, rfl, by decide +kernel, by decide +kernel⟩
theorem ok_digest_of_words (A : Kt K mg base) : FnAt P w K mg base 3 "digest_of_words" ["n", "words"] sp_digest_of_words := by
  obtain ⟨fd, F⟩ := A.fn 22 (d := dd "digest_of_words" 39)
  refine fn_mk (A.glo 22) F sc_digest_of_words (by decide) (fun _ _ _ _ _ _ us hl => match us, hl with | [_, _], _ => rfl) ?_ ?_
  · intro ds Q h
    obtain ⟨n, ws, rfl, hn, hq⟩ := h
    rfl
  · intro E cdv A' outer s H Ex ds Qd hr h
    obtain ⟨n, ws, rfl, hn, hq⟩ := h
    refine ⟨_, (pssc_one (psc_ret (pec_call (ok_digest A) (hr.mono (by decide)) (pac_cons (pec_var (i := 0)) (pac_cons (pec_join pec_str (pec_var (i := 1))) pac_nil))))), ?_⟩
    obtain ⟨h0, h1, h2⟩ := hn
    refine ⟨ws, asStrs_of ws, ?_, n, _, rfl, ⟨h0, h1⟩, hq⟩
    have e : (Str.ofString " ").length = 1 := by decide
    rw [e]
    omega
/-! asked: slots 0 ground, 1 first, 2 public, 3 text -/
def sp_asked : Spd := fun ds Q => ∃ (h : Hm) (F O : G h.V.C) (t : Str), ds = [encH h, encP F.1, encP O.1, .str t] ∧ t.length ≤ 3000 ∧ Q (.int (wt h F O t : Nat))
theorem sc_asked : FnScope ["ground", "first", "public", "text"] ["ground", "first", "public", "text"] (defScope (top 57)) := ⟨rfl, rfl, rfl, by decide +kernel, rfl, by decide +kernel, by decide +kernel⟩
theorem ok_asked (A : Kt K mg base) : FnAt P w K mg base 4 "asked" ["ground", "first", "public", "text"] sp_asked := by
  obtain ⟨fd, F⟩ := A.fn 36 (d := dd "asked" 57)
  refine fn_mk (A.glo 36) F sc_asked (by decide) (fun _ _ _ _ _ _ us hl => match us, hl with | [_, _, _, _], _ => rfl) ?_ ?_
  · intro ds Q h
    obtain ⟨h, F, O, t, rfl, ht, hq⟩ := h
    rfl
  · intro E cdv A' outer s H Ex ds Qd hr h
    obtain ⟨h, F, O, t, rfl, ht, hq⟩ := h
    refine ⟨_, (pssc_one (psc_ret (pec_call (ok_digest_of_words A) (hr.mono (by decide)) (pac_cons (pec_item (k := 2) (pec_var (i := 0))) (pac_cons (pec_lst (pac_cons (pec_call (ok_point_text A) (hr.mono (by decide)) (pac_cons (pec_var (i := 1)) pac_nil)) (pac_cons (pec_call (ok_point_text A) (hr.mono (by decide)) (pac_cons (pec_var (i := 2)) pac_nil)) (pac_cons (pec_var (i := 3)) pac_nil)))) pac_nil))))), ?_⟩
    have h0 := h.hn.pr.1
    have hb := h.hb.h
    refine ⟨h.V.p, h.V.hp, h.V.hb, F.1, rfl, h.V.p, h.V.hp, h.V.hb, O.1, rfl, rfl, h.n, [ptx F.1, ptx O.1, t], rfl, ⟨by omega, hb, ?_⟩, hq⟩
    have l1 := len_ptx F.1
    have l2 := len_ptx O.1
    simp only [List.map_cons, List.map_nil, List.sum_cons, List.sum_nil, List.length_cons, List.length_nil]
    omega
/-! answer: slots 0 ground, 1 key, 2 nonce, 3 number -/
def sp_answer : Spd := fun ds Q => ∃ (h : Hm) (k o m : Nat), ds = [encH h, .int k, .int o, .int m] ∧ (k < 2 ^ 200 ∧ m < 2 ^ 200) ∧ Q (.int ((o + m * k) % h.n : Nat))
theorem sc_answer : FnScope ["ground", "key", "nonce", "number"] ["ground", "key", "nonce", "number"] (defScope (top 58)) := ⟨rfl, rfl, rfl, by decide +kernel, rfl, by decide +kernel, by decide +kernel⟩
theorem ok_answer (A : Kt K mg base) : FnAt P w K mg base 1 "answer" ["ground", "key", "nonce", "number"] sp_answer := by
  obtain ⟨fd, F⟩ := A.fn 37 (d := dd "answer" 58)
  refine fn_mk (A.glo 37) F sc_answer (by decide) (fun _ _ _ _ _ _ us hl => match us, hl with | [_, _, _, _], _ => rfl) ?_ ?_
  · intro ds Q h
    obtain ⟨h, k, o, m, rfl, hk, hq⟩ := h
    rfl
  · intro E cdv A' outer s H Ex ds Qd hr h
    obtain ⟨h, k, o, m, rfl, hk, hq⟩ := h
    refine ⟨_, (pssc_one (psc_ret (pec_mod (pec_addI (pec_var (i := 2)) (pec_mul (pec_var (i := 3)) (pec_var (i := 1)))) (pec_item (k := 2) (pec_var (i := 0)))))), ?_⟩
    haveI : Sz 200 ((k : Nat) : Int) := ⟨by omega⟩
    haveI : Sz 200 ((m : Nat) : Int) := ⟨by omega⟩
    refine ⟨cmW, ppos h.n, ?_⟩
    have e : (((o : Nat) : Int) + m * k) % (h.n : Int) = (((o + m * k) % h.n : Nat) : Int) := by
      rw [Int.natCast_emod, Int.natCast_add, Int.natCast_mul]
    show Qd (.int ((((o : Nat) : Int) + m * k) % (h.n : Int)))
    rw [e]; exact hq
/-! meets: slots 0 ground, 1 public, 2 first, 3 number, 4 s, 5 curve -/
def sp_meets : Spd := fun ds Q => ∃ (h : Hm) (O F : G h.V.C) (m k : Nat), ds = [encH h, encP O.1, encP F.1, .int m, .int k] ∧ (m < 2 ^ 200 ∧ k < 2 ^ 200) ∧ Q (.bl (decide (nm k h.B = F + nm m O)))
theorem sc_meets : FnScope ["ground", "public", "first", "number", "s", "curve"] ["ground", "public", "first", "number", "s"] (defScope (top 59)) := ⟨rfl, rfl, rfl, by decide +kernel, rfl, by decide +kernel, by decide +kernel⟩
theorem ok_meets (A : Kt K mg base) : FnAt P w K mg base 6 "meets" ["ground", "public", "first", "number", "s"] sp_meets := by
  obtain ⟨fd, F⟩ := A.fn 38 (d := dd "meets" 59)
  refine fn_mk (A.glo 38) F sc_meets (by decide) (fun _ _ _ _ _ _ us hl => match us, hl with | [_, _, _, _, _], _ => rfl) ?_ ?_
  · intro ds Q h
    obtain ⟨h, O, F, m, k, rfl, hk, hq⟩ := h
    rfl
  · intro E cdv A' outer s H Ex ds Qd hr h
    obtain ⟨h, O, F, m, k, rfl, hk, hq⟩ := h
    refine ⟨_, (pssc_cons (psc_set (i := 5) sc_meets.nd (pec_item (k := 0) (pec_var (i := 0))))
      (pssc_one (psc_ret (pec_eq hr.units (pec_call (ok_base_times A) (hr.mono (by decide)) (pac_cons (pec_var (i := 0)) (pac_cons (pec_var (i := 4)) pac_nil))) (pec_call (ok_plus A) (hr.mono (by decide)) (pac_cons (pec_var (i := 5)) (pac_cons (pec_var (i := 2)) (pac_cons (pec_call (ok_times A) (hr.mono (by decide)) (pac_cons (pec_var (i := 5)) (pac_cons (pec_var (i := 1)) (pac_cons (pec_var (i := 3)) pac_nil)))) pac_nil)))))))), ?_⟩
    refine ⟨h, k, rfl, hk.2, h.V, O, m, rfl, hk.1, h.V, F, nm m O, rfl, ?_⟩
    refine eq_encP (f := id) ?_
    show Qd (.bl (decide _))
    rw [dec_g]; exact hq
/-! signed: slots 0 ground, 1 key, 2 nonce, 3 text, 4 first, 5 number -/
def sp_signed : Spd := fun ds Q => ∃ (h : Hm) (k o : Nat) (t : Str), ds = [encH h, .int k, .int o, .str t] ∧ (k < 2 ^ 200 ∧ o < 2 ^ 200 ∧ t.length ≤ 3000) ∧ Q (.tup [encP (nm o h.B).1, .int ((o + wt h (nm o h.B) (nm k h.B) t * k) % h.n : Nat)])
theorem sc_signed : FnScope ["ground", "key", "nonce", "text", "first", "number"] ["ground", "key", "nonce", "text"] (defScope (top 60)) := ⟨rfl, rfl, rfl, by decide +kernel, rfl, by decide +kernel, by decide +kernel⟩
theorem ok_signed (A : Kt K mg base) : FnAt P w K mg base 7 "signed" ["ground", "key", "nonce", "text"] sp_signed := by
  obtain ⟨fd, F⟩ := A.fn 39 (d := dd "signed" 60)
  refine fn_mk (A.glo 39) F sc_signed (by decide) (fun _ _ _ _ _ _ us hl => match us, hl with | [_, _, _, _], _ => rfl) ?_ ?_
  · intro ds Q h
    obtain ⟨h, k, o, t, rfl, hk, hq⟩ := h
    rfl
  · intro E cdv A' outer s H Ex ds Qd hr h
    obtain ⟨h, k, o, t, rfl, hk, hq⟩ := h
    refine ⟨_, (pssc_cons (psc_set (i := 4) sc_signed.nd (pec_call (ok_base_times A) (hr.mono (by decide)) (pac_cons (pec_var (i := 0)) (pac_cons (pec_var (i := 2)) pac_nil))))
      (pssc_cons (psc_set (i := 5) sc_signed.nd (pec_call (ok_asked A) (hr.mono (by decide)) (pac_cons (pec_var (i := 0)) (pac_cons (pec_var (i := 4)) (pac_cons (pec_call (ok_open_key A) (hr.mono (by decide)) (pac_cons (pec_var (i := 0)) (pac_cons (pec_var (i := 1)) pac_nil))) (pac_cons (pec_var (i := 3)) pac_nil))))))
      (pssc_one (psc_ret (pec_tup (pac_cons (pec_var (i := 4)) (pac_cons (pec_call (ok_answer A) (hr.mono (by decide)) (pac_cons (pec_var (i := 0)) (pac_cons (pec_var (i := 1)) (pac_cons (pec_var (i := 2)) (pac_cons (pec_var (i := 5)) pac_nil))))) pac_nil))))))), ?_⟩
    obtain ⟨h1, h2, h3⟩ := hk
    have hw := wt_lt h (nm o h.B) (nm k h.B) t
    have hb := h.hb.h
    exact ⟨h, o, rfl, h2, h, k, rfl, h1, h, nm o h.B, nm k h.B, t, rfl, h3, h, k, o, _, rfl, ⟨h1, by omega⟩, rfl, hq⟩
/-! is_signature: slots 0 ground, 1 value -/
def sp_is_signature : Spd := fun ds Q => ∃ (h : Hm) (F : G h.V.C) (k : Nat), ds = [encH h, .tup [encP F.1, .int k]] ∧ k < h.n ∧ Q (.bl true)
theorem sc_is_signature : FnScope ["ground", "value"] ["ground", "value"] (defScope (top 61)) := ⟨rfl, rfl, rfl, by decide +kernel, rfl, by decide +kernel, by decide +kernel⟩
theorem ok_is_signature (A : Kt K mg base) : FnAt P w K mg base 5 "is_signature" ["ground", "value"] sp_is_signature := by
  obtain ⟨fd, F⟩ := A.fn 40 (d := dd "is_signature" 61)
  refine fn_mk (A.glo 40) F sc_is_signature (by decide) (fun _ _ _ _ _ _ us hl => match us, hl with | [_, _], _ => rfl) ?_ ?_
  · intro ds Q h
    obtain ⟨h, F, k, rfl, hk, hq⟩ := h
    rfl
  · intro E cdv A' outer s H Ex ds Qd hr h
    obtain ⟨h, F, k, rfl, hk, hq⟩ := h
    refine ⟨_, (pssc_cons (psc_if (ptc_not (ptc_val (pec_call (ok_is_tuple_of A) (hr.mono (by decide)) (pac_cons (pec_var (i := 1)) (pac_cons pec_int pac_nil))))) (pssc_one (psc_ret pec_bl)) pssc_nil)
      (pssc_one (psc_ret (pec_and (pec_call (ok_is_point A) (hr.mono (by decide)) (pac_cons (pec_item (k := 0) (pec_var (i := 0))) (pac_cons (pec_item (k := 0) (pec_var (i := 1))) pac_nil))) (pec_one (pec_call (ok_is_below_order A) (hr.mono (by decide)) (pac_cons (pec_var (i := 0)) (pac_cons (pec_item (k := 1) (pec_var (i := 1))) pac_nil)))))))), ?_⟩
    refine ⟨[encP F.1, .int k], rfl, (fun h => nomatch h), fun _ => ⟨h.V, F, rfl, fun _ => ⟨h, k, rfl, hk, hq⟩, (fun h => nomatch h)⟩⟩
/-! holds: slots 0 ground, 1 public, 2 text, 3 value, 4 first, 5 s -/
def sp_holds : Spd := fun ds Q => ∃ (h : Hm) (O : G h.V.C) (t : Str) (F : G h.V.C) (k : Nat), ds = [encH h, encP O.1, .str t, .tup [encP F.1, .int k]] ∧ (k < h.n ∧ t.length ≤ 3000) ∧ Q (.bl (decide (nm k h.B = F + nm (wt h F O t) O)))
theorem sc_holds : FnScope ["ground", "public", "text", "value", "first", "s"] ["ground", "public", "text", "value"] (defScope (top 62)) := ⟨rfl, rfl, rfl, by decide +kernel, rfl, by decide +kernel, by decide +kernel⟩
theorem ok_holds (A : Kt K mg base) : FnAt P w K mg base 7 "holds" ["ground", "public", "text", "value"] sp_holds := by
  obtain ⟨fd, F⟩ := A.fn 41 (d := dd "holds" 62)
  refine fn_mk (A.glo 41) F sc_holds (by decide) (fun _ _ _ _ _ _ us hl => match us, hl with | [_, _, _, _], _ => rfl) ?_ ?_
  · intro ds Q h
    obtain ⟨h, O, t, F, k, rfl, hk, hq⟩ := h
    rfl
  · intro E cdv A' outer s H Ex ds Qd hr h
    obtain ⟨h, O, t, F, k, rfl, hk, hq⟩ := h
    refine ⟨_, (pssc_cons (psc_if (ptc_not (ptc_val (pec_call (ok_is_signature A) (hr.mono (by decide)) (pac_cons (pec_var (i := 0)) (pac_cons (pec_var (i := 3)) pac_nil))))) (pssc_one (psc_ret pec_bl)) pssc_nil)
      (pssc_cons (psc_asg (pec_var (i := 3)) (pgc_tup rfl (pgsc_cons (pgc_name (i := 4) sc_holds.nd) (pgsc_cons (pgc_name (i := 5) sc_holds.nd) pgsc_nil))))
      (pssc_one (psc_ret (pec_call (ok_meets A) (hr.mono (by decide)) (pac_cons (pec_var (i := 0)) (pac_cons (pec_var (i := 1)) (pac_cons (pec_var (i := 4)) (pac_cons (pec_call (ok_asked A) (hr.mono (by decide)) (pac_cons (pec_var (i := 0)) (pac_cons (pec_var (i := 4)) (pac_cons (pec_var (i := 1)) (pac_cons (pec_var (i := 2)) pac_nil))))) (pac_cons (pec_var (i := 5)) pac_nil)))))))))), ?_⟩
    have hw := wt_lt h F O t
    have hb := h.hb.h
    exact ⟨h, F, k, rfl, hk.1, (fun h => nomatch h), fun _ => ⟨rfl, h, F, O, t, rfl, hk.2, h, O, F, _, k, rfl, ⟨by omega, by omega⟩, hq⟩⟩
/-! divided_by_order: slots 0 n, 1 top, 2 bottom -/
def sp_divided_by_order : Spd := fun ds Q => ∃ (n : Nat) (hp : Prm n) (hb : Bd n) (i j : Int), ds = [.int n, .int i, .int j] ∧ (i.natAbs < 2 ^ 200 ∧ j.natAbs < 2 ^ 200 ∧ fi n j ≠ 0) ∧ Q (.int (fi n i * (fi n j)⁻¹).v)
theorem sc_divided_by_order : FnScope ["n", "top", "bottom"] ["n", "top", "bottom"] (defScope (top 63)) := ⟨rfl, rfl, rfl, by decide +kernel, rfl, by decide +kernel, by decide +kernel⟩
theorem ok_divided_by_order (A : Kt K mg base) : FnAt P w K mg base 2 "divided_by_order" ["n", "top", "bottom"] sp_divided_by_order := by
  obtain ⟨fd, F⟩ := A.fn 42 (d := dd "divided_by_order" 63)
  refine fn_mk (A.glo 42) F sc_divided_by_order (by decide) (fun _ _ _ _ _ _ us hl => match us, hl with | [_, _, _], _ => rfl) ?_ ?_
  · intro ds Q h
    obtain ⟨n, hp, hb, i, j, rfl, hij, hq⟩ := h
    rfl
  · intro E cdv A' outer s H Ex ds Qd hr h
    obtain ⟨n, hp, hb, i, j, rfl, hij, hq⟩ := h
    refine ⟨_, (pssc_cons (psc_if (pte_eq hr.units (pec_var (i := 0)) (pec_globI rfl (A.int 113).choose_spec)) (pssc_one (psc_ret (pec_mod (pec_var (i := 1)) (pec_var (i := 0))))) pssc_nil)
      (pssc_one (psc_ret (pec_mod (pec_mul (pec_var (i := 1)) (pec_call (ok_inverse A) (hr.mono (by decide)) (pac_cons (pec_var (i := 0)) (pac_cons (pec_var (i := 2)) pac_nil)))) (pec_var (i := 0)))))), ?_⟩
    obtain ⟨h1, h2, h3⟩ := hij
    refine ⟨fun hb2 => ?_, fun _ => ?_⟩
    · have e : n = 2 := by have := of_decide_eq_true hb2; omega
      subst e
      have e1 : fi 2 j = 1 := by
        have a := (fi 2 j).lo
        have b := (fi 2 j).hi
        have c : (fi 2 j).v ≠ 0 := fun z => h3 (zp_v_zero.mp z)
        refine Ec.Zp.ext ?_
        show (fi 2 j).v = 1
        omega
      rw [e1, zp_inv_inv_one, Lean.Grind.Semiring.mul_one] at hq
      exact ⟨(show (0 : Int) < 2 by decide), hq⟩
    · haveI : Sz 200 i := ⟨h1⟩
      refine ⟨n, hp, hb, j, rfl, Nat.lt_of_lt_of_le h2 (Nat.pow_le_pow_right (by decide) (by decide)), h3, cmW, ppos n, toF hq ?_⟩
      rw [fi_mul', fi_val]
/-! key_of: slots 0 ground, 1 first, 2 public, 3 text, 4 s, 5 other_text, 6 other_s, 7 n, 8 number -/
noncomputable def keyD (h : Hm) (F O : G h.V.C) (t : Str) (k : Nat) (t2 : Str) (k2 : Nat) : D := if wt h F O t = wt h F O t2 then .non else .int (fi h.n ((k : Int) - k2) * (fi h.n ((wt h F O t : Int) - wt h F O t2))⁻¹).v
def sp_key_of : Spd := fun ds Q => ∃ (h : Hm) (F O : G h.V.C) (t : Str) (k : Nat) (t2 : Str) (k2 : Nat), ds = [encH h, encP F.1, encP O.1, .str t, .int k, .str t2, .int k2] ∧ (t.length ≤ 3000 ∧ t2.length ≤ 3000 ∧ k < h.n ∧ k2 < h.n) ∧ Q (keyD h F O t k t2 k2)
theorem sc_key_of : FnScope ["ground", "first", "public", "text", "s", "other_text", "other_s", "n", "number"] ["ground", "first", "public", "text", "s", "other_text", "other_s"] (defScope (top 64)) := ⟨rfl, rfl, rfl, by decide +kernel, rfl, by decide +kernel, by decide +kernel⟩
theorem ok_key_of (A : Kt K mg base) : FnAt P w K mg base 5 "key_of" ["ground", "first", "public", "text", "s", "other_text", "other_s"] sp_key_of := by
  obtain ⟨fd, F⟩ := A.fn 43 (d := dd "key_of" 64)
  refine fn_mk (A.glo 43) F sc_key_of (by decide) (fun _ _ _ _ _ _ us hl => match us, hl with | [_, _, _, _, _, _, _], _ => rfl) ?_ ?_
  · intro ds Q h
    obtain ⟨h, F, O, t, k, t2, k2, rfl, hk, hq⟩ := h
    rfl
  · intro E cdv A' outer s H Ex ds Qd hr h
    obtain ⟨h, F, O, t, k, t2, k2, rfl, hk, hq⟩ := h
    refine ⟨_, (pssc_cons (psc_set (i := 7) sc_key_of.nd (pec_item (k := 2) (pec_var (i := 0))))
      (pssc_cons (psc_set (i := 8) sc_key_of.nd (pec_sub (pec_call (ok_asked A) (hr.mono (by decide)) (pac_cons (pec_var (i := 0)) (pac_cons (pec_var (i := 1)) (pac_cons (pec_var (i := 2)) (pac_cons (pec_var (i := 3)) pac_nil))))) (pec_call (ok_asked A) (hr.mono (by decide)) (pac_cons (pec_var (i := 0)) (pac_cons (pec_var (i := 1)) (pac_cons (pec_var (i := 2)) (pac_cons (pec_var (i := 5)) pac_nil)))))))
      (pssc_cons (psc_if (pte_eq hr.units (pec_var (i := 8)) pec_int) (pssc_one (psc_ret pec_non)) pssc_nil)
      (pssc_one (psc_ret (pec_call (ok_divided_by_order A) (hr.mono (by decide)) (pac_cons (pec_var (i := 7)) (pac_cons (pec_sub (pec_var (i := 4)) (pec_var (i := 6))) (pac_cons (pec_var (i := 8)) pac_nil))))))))), ?_⟩
    obtain ⟨h1, h2, h3, h4⟩ := hk
    have hb := h.hb.h
    have w1 := wt_lt h F O t
    have w2 := wt_lt h F O t2
    unfold keyD at hq
    refine ⟨h, F, O, t, rfl, h1, h, F, O, t2, rfl, h2, fun hb2 => ?_, fun hb2 => ?_⟩
    · have e : wt h F O t = wt h F O t2 := by have := of_decide_eq_true hb2; omega
      rw [if_pos e] at hq
      exact hq
    · have e : wt h F O t ≠ wt h F O t2 := by have := of_decide_eq_false hb2; omega
      rw [if_neg e] at hq
      refine ⟨h.n, h.hn, h.hb, (k : Int) - k2, (wt h F O t : Int) - wt h F O t2, rfl, ⟨by omega, by omega, ?_⟩, hq⟩
      intro z
      have d := fi_zero_iff.mp z
      obtain ⟨c, hc⟩ := d
      have : c = 0 := by
        rcases Int.lt_trichotomy c 0 with q | q | q
        · have := Int.mul_le_mul_of_nonneg_left (show c ≤ -1 by omega) (show (0 : Int) ≤ h.n by omega)
          omega
        · exact q
        · have := Int.mul_le_mul_of_nonneg_left (show 1 ≤ c by omega) (show (0 : Int) ≤ h.n by omega)
          omega
      subst this
      omega
/-! talk_holds: slots 0 ground, 1 public, 2 talk, 3 first, 4 number, 5 s -/
def sp_talk_holds : Spd := fun ds Q => ∃ (h : Hm) (O F : G h.V.C) (m k : Nat), ds = [encH h, encP O.1, .tup [encP F.1, .int m, .int k]] ∧ (m < 2 ^ 200 ∧ k < 2 ^ 200) ∧ Q (.bl (decide (nm k h.B = F + nm m O)))
theorem sc_talk_holds : FnScope ["ground", "public", "talk", "first", "number", "s"] ["ground", "public", "talk"] (defScope (top 65)) := ⟨rfl, rfl, rfl, by decide +kernel, rfl, by decide +kernel, by decide +kernel⟩
theorem ok_talk_holds (A : Kt K mg base) : FnAt P w K mg base 7 "talk_holds" ["ground", "public", "talk"] sp_talk_holds := by
  obtain ⟨fd, F⟩ := A.fn 44 (d := dd "talk_holds" 65)
  refine fn_mk (A.glo 44) F sc_talk_holds (by decide) (fun _ _ _ _ _ _ us hl => match us, hl with | [_, _, _], _ => rfl) ?_ ?_
  · intro ds Q h
    obtain ⟨h, O, F, m, k, rfl, hk, hq⟩ := h
    rfl
  · intro E cdv A' outer s H Ex ds Qd hr h
    obtain ⟨h, O, F, m, k, rfl, hk, hq⟩ := h
    refine ⟨_, (pssc_cons (psc_asg (pec_var (i := 2)) (pgc_tup rfl (pgsc_cons (pgc_name (i := 3) sc_talk_holds.nd) (pgsc_cons (pgc_name (i := 4) sc_talk_holds.nd) (pgsc_cons (pgc_name (i := 5) sc_talk_holds.nd) pgsc_nil)))))
      (pssc_one (psc_ret (pec_call (ok_meets A) (hr.mono (by decide)) (pac_cons (pec_var (i := 0)) (pac_cons (pec_var (i := 1)) (pac_cons (pec_var (i := 3)) (pac_cons (pec_var (i := 4)) (pac_cons (pec_var (i := 5)) pac_nil))))))))), ?_⟩
    exact ⟨rfl, h, O, F, m, k, rfl, hk, hq⟩
/-! made_up: slots 0 ground, 1 public, 2 c, 3 s, 4 curve, 5 first -/
def sp_made_up : Spd := fun ds Q => ∃ (h : Hm) (O : G h.V.C) (c k : Nat), ds = [encH h, encP O.1, .int c, .int k] ∧ (c < 2 ^ 200 ∧ k < 2 ^ 200) ∧ Q (.tup [encP (nm k h.B + -nm c O).1, .int c, .int k])
theorem sc_made_up : FnScope ["ground", "public", "c", "s", "curve", "first"] ["ground", "public", "c", "s"] (defScope (top 66)) := ⟨rfl, rfl, rfl, by decide +kernel, rfl, by decide +kernel, by decide +kernel⟩
theorem ok_made_up (A : Kt K mg base) : FnAt P w K mg base 6 "made_up" ["ground", "public", "c", "s"] sp_made_up := by
  obtain ⟨fd, F⟩ := A.fn 45 (d := dd "made_up" 66)
  refine fn_mk (A.glo 45) F sc_made_up (by decide) (fun _ _ _ _ _ _ us hl => match us, hl with | [_, _, _, _], _ => rfl) ?_ ?_
  · intro ds Q h
    obtain ⟨h, O, c, k, rfl, hk, hq⟩ := h
    rfl
  · intro E cdv A' outer s H Ex ds Qd hr h
    obtain ⟨h, O, c, k, rfl, hk, hq⟩ := h
    refine ⟨_, (pssc_cons (psc_set (i := 4) sc_made_up.nd (pec_item (k := 0) (pec_var (i := 0))))
      (pssc_cons (psc_set (i := 5) sc_made_up.nd (pec_call (ok_plus A) (hr.mono (by decide)) (pac_cons (pec_var (i := 4)) (pac_cons (pec_call (ok_base_times A) (hr.mono (by decide)) (pac_cons (pec_var (i := 0)) (pac_cons (pec_var (i := 3)) pac_nil))) (pac_cons (pec_call (ok_opposite A) (hr.mono (by decide)) (pac_cons (pec_var (i := 4)) (pac_cons (pec_call (ok_times A) (hr.mono (by decide)) (pac_cons (pec_var (i := 4)) (pac_cons (pec_var (i := 1)) (pac_cons (pec_var (i := 2)) pac_nil)))) pac_nil))) pac_nil)))))
      (pssc_one (psc_ret (pec_tup (pac_cons (pec_var (i := 5)) (pac_cons (pec_var (i := 2)) (pac_cons (pec_var (i := 3)) pac_nil)))))))), ?_⟩
    exact ⟨h, k, rfl, hk.2, h.V, O, c, rfl, hk.1, h.V, nm c O, rfl, h.V, nm k h.B, -nm c O, rfl, rfl, hq⟩
end
end K75
set_option Elab.async false
set_option linter.all false
set_option maxRecDepth 100000
set_option maxHeartbeats 1000000
namespace K75
open PySem PySem.Spec PyProof.Rows L2 Cc Ec
section
variable {P : Program} {w : World} {K : PySem.W.Frag} {mg : Str → Option Value} {base : Heap}
instance : Sz 10 (1000 : Int) := ⟨by decide⟩
theorem small_prime {n m : Nat} (h : Pr n) (h2 : 2 ≤ m) (h3 : m < n) : ¬ m ∣ n := fun d => by
  rcases h.2 m d with q | q <;> omega
theorem sqrt_ok : ∀ m < 2000, m < (Float64.isqrt m + 1) * (Float64.isqrt m + 1) ∧ Float64.isqrt m ≤ m := by decide +kernel
def rowP {p : Nat} : Pt (Zp p) → List Int
  | none => []
  | some (x, y) => [x.v, y.v]
theorem encP_row {p : Nat} (X : Pt (Zp p)) : encP X = .tup ((rowP X).map D.int) := by
  match X with
  | none => rfl
  | some (x, y) => rfl
theorem rowP_inj {p : Nat} {X Y : Pt (Zp p)} (h : rowP X = rowP Y) : X = Y := by
  match X, Y with
  | none, none => rfl
  | none, some (x, y) => cases h
  | some (x, y), none => cases h
  | some (x, y), some (x2, y2) =>
    injection h with q1 q2
    injection q2 with q2 _
    rw [Ec.Zp.ext q1, Ec.Zp.ext q2]
theorem asInts_of (ns : List Int) : asInts (ns.map D.int) = some ns := by
  induction ns with
  | nil => rfl
  | cons n r ih => rw [List.map_cons]; simp [asInts, ih]
theorem asRow_encP {p : Nat} {X : Pt (Zp p)} {Q : List Int → Prop} (h : Q (rowP X)) : asRow Q (encP X) := by
  rw [encP_row]
  exact ⟨_, asInts_of _, h⟩
/-- the multiples below i, each with its number -/
noncomputable def tabl (h : Hm) (i : Nat) : List (List Int × Int) := (List.range i).map fun j => (rowP (nm j h.B).1, ((j : Nat) : Int))
theorem tabl_succ (h : Hm) (i : Nat) : tabl h (i + 1) = tabl h i ++ [(rowP (nm i h.B).1, ((i : Nat) : Int))] := by
  unfold tabl
  rw [List.range_succ, List.map_append]
  rfl
theorem kget_append (l : List (List Int × Int)) (q : List Int) (v : Int) (k : List Int) : kget (l ++ [(q, v)]) k = (kget l k).or (if q = k then some v else none) := by
  induction l with
  | nil => simp [kget]
  | cons p r ih =>
    obtain ⟨a, b⟩ := p
    by_cases e : a = k
    · simp [kget, e]
    · simp [kget, e, ih]
theorem tabl_none (h : Hm) (i k : Nat) (hi : i ≤ h.n) (hk : k < h.n) (hik : i ≤ k) : kget (tabl h i) (rowP (nm k h.B).1) = none := by
  induction i with
  | zero => rfl
  | succ i ih =>
    rw [tabl_succ, kget_append, ih (by omega) (by omega)]
    have : ¬ rowP (nm i h.B).1 = rowP (nm k h.B).1 := fun e => by
      have := nm_inj h.hn.pr h.zero h.ne (by omega) hk (G.ext (rowP_inj e))
      omega
    rw [if_neg this]; rfl
theorem tabl_some (h : Hm) (i k : Nat) (hi : i ≤ h.n) (hik : k < i) : kget (tabl h i) (rowP (nm k h.B).1) = some ((k : Nat) : Int) := by
  induction i with
  | zero => omega
  | succ i ih =>
    rw [tabl_succ, kget_append]
    by_cases e : k = i
    · subst e
      rw [tabl_none h k k (by omega) (by omega) (Nat.le_refl _), if_pos rfl]; rfl
    · rw [ih (by omega) (by omega)]; rfl
theorem nm_sub {V : Cv} {X : G V.C} {j k : Nat} (h : j ≤ k) : nm k X + -nm j X = nm (k - j) X := by
  have e : nm k X = nm (k - j) X + nm j X := by rw [← nm_add, Nat.sub_add_cancel h]
  rw [e, gadd_assoc, gadd_neg, gadd_zero]
/-! small_parts: slots 0 number, 1 found, 2 left, 3 one, 4 often -/
def sp_small_parts : Spo := fun ds Q => ∃ n : Nat, ds = [.int n] ∧ (Pr n ∧ n ≤ 2000) ∧ Q [] (.int n)
theorem sc_small_parts : FnScope ["number", "found", "left", "one", "often"] ["number"] (defScope (top 20)) := ⟨rfl, rfl, rfl, by decide +kernel, rfl, by decide +kernel, by decide +kernel⟩
theorem ok_small_parts (A : Kt K mg base) : FnOwn P w K mg base 1 "small_parts" ["number"] sp_small_parts := by
  obtain ⟨fd, F⟩ := A.fn 10 (d := dd "small_parts" 20)
  refine fnown_mk 1 2 (A.glo 10) F sc_small_parts (by decide) (fun _ _ _ _ _ _ us hl => match us, hl with | [_], _ => rfl) ?_ ?_
  · intro ds Q h
    obtain ⟨n, rfl, hn, hq⟩ := h
    rfl
  · intro E cdv A' outer s H Ex ds Qd hr h
    obtain ⟨n, rfl, hn, hq⟩ := h
    refine ⟨_, (pssr_cons (psc_par3ODD (i := 1) (j := 2) (l := 3) rfl sc_small_parts.nd pac_nil (pec_var (i := 0)) pec_int)
      (pssr_last (psc_while .never (PWc.pt (pwc_and (pte_le (pec_var (i := 3)) (pec_globI rfl (A.int 108).choose_spec)) (pwc_and1 (pte_le (pec_mul (pec_var (i := 3)) (pec_var (i := 3))) (pec_var (i := 2)))))) (pssc_cons (psc_if (pte_eq hr.units (pec_mod (pec_var (i := 2)) (pec_var (i := 3))) pec_int) (pssc_cons psc_never
      (pssc_one psc_never)) pssc_nil)
      (pssc_one (psc_addI (i := 3) sc_small_parts.nd pec_int))))
      (ret_pair (i := 1) (j := 2)))), ?_⟩
    obtain ⟨h1, h2⟩ := hn
    refine ⟨rfl, ?_⟩
    refine ⟨fun m ρ => ∃ (s4 : Sl) (o : Nat), ρ = [.d (.int n), .own [], .d (.int n), .d (.int (o : Nat)), s4] ∧ m = 3000 - o ∧ 2 ≤ o ∧ o ≤ 1001, ⟨_, _, 2, rfl, rfl, by omega, by omega⟩, ?_⟩
    rintro m ρ ⟨s4, o, rfl, rfl, h3, h4⟩
    haveI : Sz 20 ((o : Nat) : Int) := ⟨by omega⟩
    refine ⟨fun hb => ⟨cmW, fun hb2 => ⟨?_, fun hd => ?_, fun _ => ?_⟩, fun _ => ⟨[], _, rfl, rfl, hq⟩⟩, fun _ => ⟨(fun h => nomatch h), fun _ => ⟨[], _, rfl, rfl, hq⟩⟩⟩
    · show (0 : Int) < (o : Nat); omega
    · exfalso
      have hd := of_decide_eq_true hd
      have hd2 : o ∣ n := by
        have : ((n % o : Nat) : Int) = 0 := by rw [Int.natCast_emod]; exact hd
        exact Nat.dvd_of_mod_eq_zero (by omega)
      have hlt : o < n := by
        have hb2 := of_decide_eq_true hb2
        have e : ((o : Nat) : Int) * o = ((o * o : Nat) : Int) := by rw [Int.natCast_mul]
        rw [e] at hb2
        have : o * o ≤ n := by omega
        have := Nat.mul_le_mul_right o h3
        omega
      exact small_prime h1 h3 hlt hd2
    · have hb := of_decide_eq_true hb
      refine ⟨3000 - (o + 1), by omega, s4, o + 1, ?_, rfl, by omega, by omega⟩
      show [_, _, _, Sl.d (.int (((o : Nat) : Int) + 1)), _] = _
      have : ((o : Nat) : Int) + 1 = ((o + 1 : Nat) : Int) := by omega
      rw [this]
/-! great_parts: slots 0 number, 1 known, 2 splits, 3 found, 4 waiting, 5 one -/
def sp_great_parts : Spd := fun ds Q => ∃ (n : Nat) (a b : D), ds = [.int n, a, b] ∧ (2 ≤ n ∧ n ≤ 2000) ∧ Q (.tup [.lst [.int n], .int 0])
theorem sc_great_parts : FnScope ["number", "known", "splits", "found", "waiting", "one"] ["number", "known", "splits"] (defScope (top 21)) := ⟨rfl, rfl, rfl, by decide +kernel, rfl, by decide +kernel, by decide +kernel⟩
theorem ok_great_parts (A : Kt K mg base) : FnAt P w K mg base 1 "great_parts" ["number", "known", "splits"] sp_great_parts := by
  obtain ⟨fd, F⟩ := A.fn 11 (d := dd "great_parts" 21)
  refine fn_mk (A.glo 11) F sc_great_parts (by decide) (fun _ _ _ _ _ _ us hl => match us, hl with | [_, _, _], _ => rfl) ?_ ?_
  · intro ds Q h
    obtain ⟨n, a, b, rfl, hn, hq⟩ := h
    rfl
  · intro E cdv A' outer s H Ex ds Qd hr h
    obtain ⟨n, a, b, rfl, hn, hq⟩ := h
    refine ⟨_, (pssc_cons (psc_parOO (i := 3) (j := 4) rfl sc_great_parts.nd pac_nil (pac_cons (pec_var (i := 0)) pac_nil))
      (pssc_cons (psc_while .never (pte_gt (pec_lenOwn (i := 4) (A.free 101)) pec_int) (pssc_cons (psc_setPop (i := 5) (j := 4) sc_great_parts.nd)
      (pssc_cons (psc_if (PWc.pt (pwc_and (pte_gt (pec_var (i := 5)) (pec_mul (pec_globI rfl (A.int 108).choose_spec) (pec_globI rfl (A.int 108).choose_spec))) (pwc_and1 (pte_notInI (pec_var (i := 5)) (pec_var (i := 1)))))) (pssc_one psc_never) pssc_nil)
      (pssc_one (psc_if (PWc.pt (pwc_or (pte_lt (pec_var (i := 5)) (pec_mul (pec_globI rfl (A.int 108).choose_spec) (pec_globI rfl (A.int 108).choose_spec))) (pwc_or1 (ptc_val (pec_ix (pec_var (i := 1)) (pec_var (i := 5)) (fun _ _ => rfl)))))) (pssc_one (psc_if (pte_gt (pec_var (i := 5)) pec_int) (pssc_one (psc_append (i := 3) (pec_var (i := 5)))) pssc_nil)) (pssc_cons psc_never
      (pssc_cons psc_never
      (pssc_one psc_never))))))))
      (pssc_freeze 3 (pssc_one (psc_ret (pec_tup (pac_cons (pec_var (i := 3)) (pac_cons pec_int pac_nil)))))))), ?_⟩
    refine ⟨rfl, rfl, ?_⟩
    refine ⟨fun m ρ => (m = 1 ∧ ∃ s5, ρ = [.d (.int n), .d a, .d b, .own [], .own [.int n], s5]) ∨ (m = 0 ∧ ∃ s5, ρ = [.d (.int n), .d a, .d b, .own [.int n], .own [], s5]), ⟨1, .inl ⟨rfl, _, rfl⟩⟩, ?_⟩
    rintro m ρ (⟨rfl, s5, rfl⟩ | ⟨rfl, s5, rfl⟩)
    · refine ⟨fun _ => ⟨[], .int n, rfl, ?_⟩, fun h => absurd h (by simp)⟩
      refine ⟨cmW, fun h => absurd (of_decide_eq_true h) (by omega), fun _ => ⟨(fun h => nomatch h), fun _ => ⟨cmW, fun _ => ⟨fun _ => ⟨fun _ => ?_, fun h => absurd (of_decide_eq_false h) (by omega)⟩, (fun h => nomatch h)⟩, fun h => absurd (of_decide_eq_false h) (by omega)⟩⟩⟩
      exact ⟨by simp, 0, by omega, .inr ⟨rfl, _, rfl⟩⟩
    · refine ⟨fun h => absurd h (by decide), fun _ => ⟨rfl, hq⟩⟩
/-! factored: slots 0 number, 1 prime, 2 found, 3 left, 4 known, 5 splits, 6 primes, 7 unknown -/
def sp_factored : Spd := fun ds Q => ∃ n : Nat, ds = [.int n] ∧ (Pr n ∧ n ≤ 2000) ∧ Q (.tup [.tup [.int n, .int 1]])
theorem sc_factored : FnScope ["number", "prime", "found", "left", "known", "splits", "primes", "unknown"] ["number"] (defScope (top 24)) := ⟨rfl, rfl, rfl, by decide +kernel, rfl, by decide +kernel, by decide +kernel⟩
theorem ok_factored (A : Kt K mg base) : FnAt P w K mg base 2 "factored" ["number"] sp_factored := by
  obtain ⟨fd, F⟩ := A.fn 14 (d := dd "factored" 24)
  refine fn_mk (A.glo 14) F sc_factored (by decide) (fun _ _ _ _ _ _ us hl => match us, hl with | [_], _ => rfl) ?_ ?_
  · intro ds Q h
    obtain ⟨n, rfl, hn, hq⟩ := h
    rfl
  · intro E cdv A' outer s H Ex ds Qd hr h
    obtain ⟨n, rfl, hn, hq⟩ := h
    refine ⟨_, (pssc_cons (psc_unpOwn (i := 2) (j := 3) (ok_small_parts A) (hr.mono (by decide)) rfl sc_factored.nd (pac_cons (pec_var (i := 0)) pac_nil))
      (pssc_cons (psc_parKK (i := 4) (j := 5) rfl sc_factored.nd)
      (pssc_cons (psc_asg (pec_call (ok_great_parts A) (hr.mono (by decide)) (pac_cons (pec_var (i := 3)) (pac_cons (pec_varK (i := 4)) (pac_cons (pec_varK (i := 5)) pac_nil)))) (pgc_tup rfl (pgsc_cons (pgc_name (i := 6) sc_factored.nd) (pgsc_cons (pgc_name (i := 7) sc_factored.nd) pgsc_nil))))
      (pssc_cons (psc_while .never (pte_gt (pec_var (i := 7)) pec_int) pssc_never)
      (pssc_cons (psc_forL .never rfl (pec_sorted1 (A.free 104) (pac_cons (pec_var (i := 6)) pac_nil)) (pgc_name (i := 1) sc_factored.nd) (pssc_one (psc_if (PWc.pt (pwc_and (pte_gt (pec_lenOwn (i := 2) (A.free 101)) pec_int) (pwc_and1 (pte_eq hr.units (pec_item (k := 0) (pec_ix (pec_var (i := 2)) (pec_neg pec_int) (fun _ _ => rfl))) (pec_var (i := 1)))))) (pssc_one psc_never) (pssc_one (psc_append (i := 2) (pec_tup (pac_cons (pec_var (i := 1)) (pac_cons pec_int pac_nil))))))))
      (pssc_freeze 2 (pssc_one (psc_ret (pec_tuplec (A.free 107) (pac_cons (pec_var (i := 2)) pac_nil)))))))))), ?_⟩
    obtain ⟨h1, h2⟩ := hn
    refine ⟨n, rfl, ⟨h1, h2⟩, rfl, rfl, n, .opq, .opq, rfl, ⟨h1.1, h2⟩, rfl, ?_⟩
    refine ⟨fun m ρ => ρ = [.d (.int n), .no, .own [], .d (.int n), .dic [], .dic [], .d (.lst [.int n]), .d (.int 0)], ⟨0, rfl⟩, ?_⟩
    rintro m ρ rfl
    refine ⟨fun h => absurd h (by decide), fun _ => ?_⟩
    refine ⟨fun i ρ => (i = 0 ∧ ρ = [.d (.int n), .no, .own [], .d (.int n), .dic [], .dic [], .d (.lst [.int n]), .d (.int 0)]) ∨ (i = 1 ∧ ρ = [.d (.int n), .d (.int n), .own [.tup [.int n, .int 1]], .d (.int n), .dic [], .dic [], .d (.lst [.int n]), .d (.int 0)]), .inl ⟨rfl, rfl⟩, ?_, ?_⟩
    · rintro i x ρ hx (⟨rfl, rfl⟩ | ⟨rfl, rfl⟩)
      · obtain rfl := Option.some.inj hx
        exact ⟨fun h => absurd h (by decide), fun _ => ⟨(fun h => nomatch h), fun _ => ⟨by simp, rfl, .inr ⟨rfl, rfl⟩⟩⟩⟩
      · cases hx
    · rintro ρ (⟨h, _⟩ | ⟨_, rfl⟩)
      · cases h
      · exact hq
/-! primes_of: slots 0 number, 1 found, 2 prime, 3 power -/
def sp_primes_of : Spd := fun ds Q => ∃ n : Nat, ds = [.int n] ∧ (Pr n ∧ n ≤ 2000) ∧ Q (.lst [.int n])
theorem sc_primes_of : FnScope ["number", "found", "prime", "power"] ["number"] (defScope (top 69)) := ⟨rfl, rfl, rfl, by decide +kernel, rfl, by decide +kernel, by decide +kernel⟩
theorem ok_primes_of (A : Kt K mg base) : FnAt P w K mg base 3 "primes_of" ["number"] sp_primes_of := by
  obtain ⟨fd, F⟩ := A.fn 47 (d := dd "primes_of" 69)
  refine fn_mk (A.glo 47) F sc_primes_of (by decide) (fun _ _ _ _ _ _ us hl => match us, hl with | [_], _ => rfl) ?_ ?_
  · intro ds Q h
    obtain ⟨n, rfl, hn, hq⟩ := h
    rfl
  · intro E cdv A' outer s H Ex ds Qd hr h
    obtain ⟨n, rfl, hn, hq⟩ := h
    refine ⟨_, (pssc_cons (psc_setNew (i := 1) sc_primes_of.nd pac_nil)
      (pssc_cons (psc_forT .never rfl (pec_call (ok_factored A) (hr.mono (by decide)) (pac_cons (pec_var (i := 0)) pac_nil)) (pgc_tup rfl (pgsc_cons (pgc_name (i := 2) sc_primes_of.nd) (pgsc_cons (pgc_name (i := 3) sc_primes_of.nd) pgsc_nil))) (pssc_one (psc_extend (i := 1) (pec_rep (pec_lst (pac_cons (pec_var (i := 2)) pac_nil)) (pec_var (i := 3))))))
      (pssc_freeze 1 (pssc_one (psc_ret (pec_var (i := 1))))))), ?_⟩
    refine ⟨rfl, n, rfl, hn, ?_⟩
    refine ⟨fun i ρ => (i = 0 ∧ ∃ s2 s3, ρ = [.d (.int n), .own [], s2, s3]) ∨ (i = 1 ∧ ∃ s2 s3, ρ = [.d (.int n), .own [.int n], s2, s3]), .inl ⟨rfl, _, _, rfl⟩, ?_, ?_⟩
    · rintro i x ρ hx (⟨rfl, s2, s3, rfl⟩ | ⟨rfl, s2, s3, rfl⟩)
      · obtain rfl := Option.some.inj hx
        refine ⟨rfl, rfl, by decide, by decide, by simp, by simp, .inr ⟨rfl, _, _, rfl⟩⟩
      · cases hx
    · rintro ρ (⟨h, _⟩ | ⟨_, s2, s3, rfl⟩)
      · cases h
      · exact hq
/-! has_order: slots 0 curve, 1 base, 2 order, 3 prime, 4 power -/
def sp_has_order : Spd := fun ds Q => ∃ h : Hm, ds = [encC h.V, encP h.B.1, .int h.n] ∧ h.n ≤ 2000 ∧ Q (.bl true)
theorem sc_has_order : FnScope ["curve", "base", "order", "prime", "power"] ["curve", "base", "order"] (defScope (top 70)) := ⟨rfl, rfl, rfl, by decide +kernel, rfl, by decide +kernel, by decide +kernel⟩
theorem ok_has_order (A : Kt K mg base) : FnAt P w K mg base 5 "has_order" ["curve", "base", "order"] sp_has_order := by
  obtain ⟨fd, F⟩ := A.fn 48 (d := dd "has_order" 70)
  refine fn_mk (A.glo 48) F sc_has_order (by decide) (fun _ _ _ _ _ _ us hl => match us, hl with | [_, _, _], _ => rfl) ?_ ?_
  · intro ds Q h
    obtain ⟨h, rfl, hn, hq⟩ := h
    rfl
  · intro E cdv A' outer s H Ex ds Qd hr h
    obtain ⟨h, rfl, hn, hq⟩ := h
    refine ⟨_, (pssc_cons (psc_if (PWc.pt (pwc_or (pte_lt (pec_var (i := 2)) pec_int) (pwc_or1 (pte_gt (pec_lenc (A.free 101) (pac_cons (pec_call (ok_times A) (hr.mono (by decide)) (pac_cons (pec_var (i := 0)) (pac_cons (pec_var (i := 1)) (pac_cons (pec_var (i := 2)) pac_nil)))) pac_nil)) pec_int)))) (pssc_one (psc_ret pec_bl)) pssc_nil)
      (pssc_cons (psc_forT .never rfl (pec_call (ok_factored A) (hr.mono (by decide)) (pac_cons (pec_var (i := 2)) pac_nil)) (pgc_tup rfl (pgsc_cons (pgc_name (i := 3) sc_has_order.nd) (pgsc_cons (pgc_name (i := 4) sc_has_order.nd) pgsc_nil))) (pssc_one (psc_if (pte_eq hr.units (pec_lenc (A.free 101) (pac_cons (pec_call (ok_times A) (hr.mono (by decide)) (pac_cons (pec_var (i := 0)) (pac_cons (pec_var (i := 1)) (pac_cons (pec_div (pec_var (i := 2)) (pec_var (i := 3))) pac_nil)))) pac_nil)) pec_int) (pssc_one (psc_ret pec_bl)) pssc_nil)))
      (pssc_one (psc_ret pec_bl)))), ?_⟩
    have h2 := h.hn.pr.1
    refine ⟨fun hb => absurd (of_decide_eq_true hb) (by omega), fun _ => ⟨h.V, h.B, h.n, rfl, by omega, ?_⟩⟩
    rw [h.zero]
    refine ⟨fun hb => absurd hb (by decide), fun _ => ⟨h.n, rfl, ⟨h.hn.pr, hn⟩, ?_⟩⟩
    refine ⟨fun i ρ => ∃ s3 s4, ρ = [.d (encC h.V), .d (encP h.B.1), .d (.int h.n), s3, s4], ⟨_, _, rfl⟩, ?_, ?_⟩
    · rintro i x ρ hx ⟨s3, s4, rfl⟩
      match i, hx with
      | 0, hx =>
        obtain rfl := Option.some.inj hx
        have e : ((h.n : Nat) : Int) / (h.n : Nat) = ((1 : Nat) : Int) := by rw [Int.ediv_self (by omega)]; rfl
        refine ⟨rfl, cdW (by omega), h.V, h.B, 1, ?_, by decide, ?_⟩
        · show [_, _, D.int (((h.n : Nat) : Int) / (h.n : Nat))] = _
          rw [e]
        rw [nm_one]
        have hne : h.B.1 ≠ none := fun e => h.ne (G.ext e)
        match h.B.1, hne with
        | some (x, y), _ => exact ⟨fun hb => absurd hb (by simp), fun _ => ⟨_, _, rfl⟩⟩
      | _ + 1, hx => cases hx
    · rintro ρ ⟨s3, s4, rfl⟩
      exact hq
theorem asDic_dic {Q : List (List Int × Int) → Prop} {s : Cc.Sl} {kvs : List (List Int × Int)} (e : s = .dic kvs) (h : Q kvs) : asDic Q s := by rw [e]; exact h
theorem asB_bl {Q : Bool → Prop} {b c : Bool} (e : b = c) (h : Q c) : asB Q (.bl b) := by rw [e]; exact h
def strd (h : Hm) : Int := ((Float64.isqrt (((h.n : Nat) : Int) - 1).toNat : Nat) : Int) + 1
theorem strd_ok (h : Hm) (hn : h.n ≤ 2000) : ∃ s : Nat, strd h = (s : Nat) ∧ 1 ≤ s ∧ s ≤ h.n ∧ h.n ≤ s * s := by
  have h2 := h.hn.pr.1
  obtain ⟨q1, q2⟩ := sqrt_ok (h.n - 1) (by omega)
  have e0 : (((h.n : Nat) : Int) - 1).toNat = h.n - 1 := by omega
  refine ⟨Float64.isqrt (h.n - 1) + 1, ?_, by omega, by omega, by omega⟩
  unfold strd
  rw [e0]
  omega
/-! least_times: slots 0 curve, 1 base, 2 prime, 3 point, 4 stride, 5 number, 6 reached, 7 here, 8 step, 9 left -/
def sp_least_times : Spd := fun ds Q => ∃ (h : Hm) (k : Nat), ds = [encC h.V, encP h.B.1, .int h.n, encP (nm k h.B).1] ∧ (h.n ≤ 2000 ∧ k < h.n) ∧ Q (.int k)
theorem sc_least_times : FnScope ["curve", "base", "prime", "point", "stride", "number", "reached", "here", "step", "left"] ["curve", "base", "prime", "point"] (defScope (top 68)) := ⟨rfl, rfl, rfl, by decide +kernel, rfl, by decide +kernel, by decide +kernel⟩
theorem ok_least_times (A : Kt K mg base) : FnAt P w K mg base 5 "least_times" ["curve", "base", "prime", "point"] sp_least_times := by
  obtain ⟨fd, F⟩ := A.fn 46 (d := dd "least_times" 68)
  refine fn_mk (A.glo 46) F sc_least_times (by decide) (fun _ _ _ _ _ _ us hl => match us, hl with | [_, _, _, _], _ => rfl) ?_ ?_
  · intro ds Q h
    obtain ⟨h, k, rfl, hn, hq⟩ := h
    rfl
  · intro E cdv A' outer s H Ex ds Qd hr h
    obtain ⟨h, k, rfl, hn, hq⟩ := h
    refine ⟨_, (pssc_cons (psc_set (i := 4) sc_least_times.nd (pec_addI (pec_sqrt (A.imp "isqrt") (pac_cons (pec_sub (pec_var (i := 2)) pec_int) pac_nil)) pec_int))
      (pssc_cons (psc_parKD (i := 6) (j := 7) rfl sc_least_times.nd (pec_tup pac_nil))
      (pssc_cons (psc_forR1 .never rfl (A.free 103) (pac_cons (pec_var (i := 4)) pac_nil) (pgc_name (i := 5) sc_least_times.nd) (pssc_cons (psc_dput (i := 6) hr.units1 (pec_var (i := 5)) (pec_var (i := 7)))
      (pssc_one (psc_set (i := 7) sc_least_times.nd (pec_call (ok_plus A) (hr.mono (by decide)) (pac_cons (pec_var (i := 0)) (pac_cons (pec_var (i := 7)) (pac_cons (pec_var (i := 1)) pac_nil))))))))
      (pssc_cons (psc_par (i := 8) (j := 9) rfl sc_least_times.nd (pac_cons (pec_call (ok_opposite A) (hr.mono (by decide)) (pac_cons (pec_var (i := 0)) (pac_cons (pec_var (i := 7)) pac_nil))) (pac_cons (pec_var (i := 3)) pac_nil)))
      (pssc_cons (psc_forR1 .never rfl (A.free 103) (pac_cons (pec_var (i := 4)) pac_nil) (pgc_name (i := 5) sc_least_times.nd) (pssc_cons (psc_if (pte_din (i := 6) hr.units1 (pec_var (i := 9))) (pssc_one (psc_ret (pec_addI (pec_mul (pec_var (i := 5)) (pec_var (i := 4))) (pec_dget (i := 6) hr.units1 (pec_var (i := 9)) (fun _ _ => rfl))))) pssc_nil)
      (pssc_one (psc_set (i := 9) sc_least_times.nd (pec_call (ok_plus A) (hr.mono (by decide)) (pac_cons (pec_var (i := 0)) (pac_cons (pec_var (i := 9)) (pac_cons (pec_var (i := 8)) pac_nil))))))))
      (pssc_one (psc_ret pec_non))))))), ?_⟩
    obtain ⟨hn, hk⟩ := hn
    have h2 := h.hn.pr.1
    obtain ⟨s, es, s1, s2, s3⟩ := strd_ok h hn
    refine ⟨by omega, by omega, rfl, ?_⟩
    have win : inW (strd h) := by rw [es]; exact ⟨by omega, by omega⟩
    have nat : (strd h).toNat = s := by rw [es]; rfl
    refine ⟨win, fun i ρ => ∃ s5 s8 s9, ρ = [.d (encC h.V), .d (encP h.B.1), .d (.int h.n), .d (encP (nm k h.B).1), .d (.int (strd h)), s5, .dic (tabl h i), .d (encP (nm i h.B).1), s8, s9], ⟨_, _, _, rfl⟩, ?_, ?_⟩
    · rintro i ρ hi ⟨s5, s8, s9, rfl⟩
      have hi : i < s := by rw [← nat]; exact hi
      refine ⟨rfl, asRow_encP ⟨?_, tabl_none h i i (by omega) (by omega) (Nat.le_refl _), h.V, nm i h.B, h.B, rfl, ?_⟩⟩
      · show ((List.range i).map _).length < _
        rw [List.length_map, List.length_range]; omega
      · refine ⟨.d (.int (0 + (i : Nat))), s8, s9, ?_⟩
        rw [tabl_succ]
        have e : (0 : Int) + (i : Nat) = ((i : Nat) : Int) := by omega
        show [_, _, _, _, _, Sl.d (.int (0 + (i : Nat))), Sl.dic (tabl h i ++ [(_, 0 + ((i : Nat) : Int))]), _, _, _] = _
        rw [e]
        rfl
    · rintro ρ ⟨s5, s8, s9, hρ⟩
      have nat' : (((Float64.isqrt (((h.n : Nat) : Int) - 1).toNat : Nat) : Int) + 1).toNat = s := nat
      rw [nat'] at hρ
      subst hρ
      refine ⟨h.V, nm s h.B, rfl, win, fun i ρ => ∃ s5, i * s ≤ k ∧ ρ = [.d (encC h.V), .d (encP h.B.1), .d (.int h.n), .d (encP (nm k h.B).1), .d (.int (strd h)), s5, .dic (tabl h s), .d (encP (nm s h.B).1), .d (encP (-nm s h.B).1), .d (encP (nm (k - i * s) h.B).1)], ⟨_, by omega, by rw [Nat.zero_mul]; rfl⟩, ?_, ?_⟩
      · rintro i ρ hi ⟨s5, hle, rfl⟩
        have hi : i < s := by rw [← nat]; exact hi
        by_cases hr : k - i * s < s
        · refine asRow_encP (asDic_dic (kvs := tabl h s) rfl (asB_bl (c := true) (by rw [tabl_some h s _ s2 hr]; rfl) ⟨fun _ => ?_, (fun h => nomatch h)⟩))
          haveI : Sz 20 ((0 : Int) + (i : Nat)) := ⟨by omega⟩
          haveI : Sz 20 (strd h) := ⟨by rw [es]; omega⟩
          refine ⟨cmW, rfl, asRow_encP ⟨_, tabl_some h s _ s2 hr, ?_⟩⟩
          have e : ((0 : Int) + (i : Nat)) * strd h + ((k - i * s : Nat) : Int) = ((k : Nat) : Int) := by
            rw [es, Int.zero_add, ← Int.natCast_mul, ← Int.natCast_add]
            congr 1
            omega
          show Qd (.int (((0 : Int) + (i : Nat)) * strd h + ((k - i * s : Nat) : Int)))
          rw [e]; exact hq
        · refine asRow_encP (asDic_dic (kvs := tabl h s) rfl (asB_bl (c := false) (by rw [tabl_none h s _ s2 (by omega) (by omega)]; rfl) ⟨(fun h => nomatch h), fun _ => ⟨h.V, nm (k - i * s) h.B, -nm s h.B, rfl, .d (.int (0 + (i : Nat))), ?_, ?_⟩⟩))
          · rw [Nat.succ_mul]; omega
          · rw [nm_sub (by omega)]
            have e : k - i * s - s = k - (i + 1) * s := by rw [Nat.succ_mul]; omega
            rw [e]
            rfl
      · rintro ρ ⟨s5, hle, rfl⟩
        rw [nat] at hle
        omega
/-! figures_to: slots 0 curve, 1 base, 2 order, 3 point, 4 prime, 5 found, 6 unit, 7 rest, 8 left, 9 figure -/
def sp_figures_to : Spd := fun ds Q => ∃ (h : Hm) (k : Nat), ds = [encC h.V, encP h.B.1, .int h.n, encP (nm k h.B).1] ∧ (h.n ≤ 2000 ∧ k < h.n) ∧ Q (.int k)
theorem sc_figures_to : FnScope ["curve", "base", "order", "point", "prime", "found", "unit", "rest", "left", "figure"] ["curve", "base", "order", "point"] (defScope (top 71)) := ⟨rfl, rfl, rfl, by decide +kernel, rfl, by decide +kernel, by decide +kernel⟩
theorem ok_figures_to (A : Kt K mg base) : FnAt P w K mg base 6 "figures_to" ["curve", "base", "order", "point"] sp_figures_to := by
  obtain ⟨fd, F⟩ := A.fn 49 (d := dd "figures_to" 71)
  refine fn_mk (A.glo 49) F sc_figures_to (by decide) (fun _ _ _ _ _ _ us hl => match us, hl with | [_, _, _, _], _ => rfl) ?_ ?_
  · intro ds Q h
    obtain ⟨h, k, rfl, hn, hq⟩ := h
    rfl
  · intro E cdv A' outer s H Ex ds Qd hr h
    obtain ⟨h, k, rfl, hn, hq⟩ := h
    refine ⟨_, (pssc_cons (psc_asg (pec_tup (pac_cons pec_int (pac_cons pec_int (pac_cons (pec_var (i := 2)) (pac_cons (pec_var (i := 3)) pac_nil))))) (pgc_tup rfl (pgsc_cons (pgc_name (i := 5) sc_figures_to.nd) (pgsc_cons (pgc_name (i := 6) sc_figures_to.nd) (pgsc_cons (pgc_name (i := 7) sc_figures_to.nd) (pgsc_cons (pgc_name (i := 8) sc_figures_to.nd) pgsc_nil))))))
      (pssc_cons (psc_forL .never rfl (pec_call (ok_primes_of A) (hr.mono (by decide)) (pac_cons (pec_var (i := 2)) pac_nil)) (pgc_name (i := 4) sc_figures_to.nd) (pssc_cons (psc_set (i := 7) sc_figures_to.nd (pec_div (pec_var (i := 7)) (pec_var (i := 4))))
      (pssc_cons (psc_set (i := 9) sc_figures_to.nd (pec_call (ok_least_times A) (hr.mono (by decide)) (pac_cons (pec_var (i := 0)) (pac_cons (pec_call (ok_times A) (hr.mono (by decide)) (pac_cons (pec_var (i := 0)) (pac_cons (pec_var (i := 1)) (pac_cons (pec_div (pec_var (i := 2)) (pec_var (i := 4))) pac_nil)))) (pac_cons (pec_var (i := 4)) (pac_cons (pec_call (ok_times A) (hr.mono (by decide)) (pac_cons (pec_var (i := 0)) (pac_cons (pec_var (i := 8)) (pac_cons (pec_var (i := 7)) pac_nil)))) pac_nil))))))
      (pssc_cons (psc_if (pte_isN (pec_var (i := 9))) (pssc_one (psc_ret pec_non)) pssc_nil)
      (pssc_cons (psc_set (i := 8) sc_figures_to.nd (pec_call (ok_plus A) (hr.mono (by decide)) (pac_cons (pec_var (i := 0)) (pac_cons (pec_var (i := 8)) (pac_cons (pec_call (ok_opposite A) (hr.mono (by decide)) (pac_cons (pec_var (i := 0)) (pac_cons (pec_call (ok_times A) (hr.mono (by decide)) (pac_cons (pec_var (i := 0)) (pac_cons (pec_var (i := 1)) (pac_cons (pec_mul (pec_var (i := 6)) (pec_var (i := 9))) pac_nil)))) pac_nil))) pac_nil)))))
      (pssc_one (psc_par (i := 5) (j := 6) rfl sc_figures_to.nd (pac_cons (pec_addI (pec_var (i := 5)) (pec_mul (pec_var (i := 6)) (pec_var (i := 9)))) (pac_cons (pec_mul (pec_var (i := 6)) (pec_var (i := 4))) pac_nil)))))))))
      (pssc_one (psc_ret (pec_var (i := 5)))))), ?_⟩
    obtain ⟨hn, hk⟩ := hn
    have h2 := h.hn.pr.1
    have e1 : ((h.n : Nat) : Int) / (h.n : Nat) = ((1 : Nat) : Int) := by rw [Int.ediv_self (by omega)]; rfl
    refine ⟨rfl, rfl, h.n, rfl, ⟨h.hn.pr, hn⟩, ?_⟩
    refine ⟨fun i ρ => (i = 0 ∧ ρ = [.d (encC h.V), .d (encP h.B.1), .d (.int h.n), .d (encP (nm k h.B).1), .no, .d (.int 0), .d (.int 1), .d (.int h.n), .d (encP (nm k h.B).1), .no]) ∨ (i = 1 ∧ ∃ s4 s6 s7 s8 s9, ρ = [.d (encC h.V), .d (encP h.B.1), .d (.int h.n), .d (encP (nm k h.B).1), s4, .d (.int k), s6, s7, s8, s9]), .inl ⟨rfl, rfl⟩, ?_, ?_⟩
    · rintro i x ρ hx (⟨rfl, rfl⟩ | ⟨rfl, s4, s6, s7, s8, s9, rfl⟩)
      · obtain rfl := Option.some.inj hx
        haveI : Sz 20 ((k : Nat) : Int) := ⟨by omega⟩
        haveI : Sz 20 ((h.n : Nat) : Int) := ⟨by omega⟩
        refine ⟨cdW (by omega), cdW (by omega), h.V, h.B, 1, ?_, by decide, h.V, nm k h.B, 1, ?_, by decide, h, k, ?_, ⟨hn, hk⟩, rfl, (fun h => nomatch h), fun _ => ?_⟩
        · show [_, _, D.int (((h.n : Nat) : Int) / (h.n : Nat))] = _
          rw [e1]
        · show [_, _, D.int (((h.n : Nat) : Int) / (h.n : Nat))] = _
          rw [e1]
        · rw [nm_one, nm_one]
        refine ⟨cmW, h.V, h.B, k, ?_, by omega, h.V, nm k h.B, rfl, h.V, nm k h.B, -nm k h.B, rfl, cmW, cmW, .inr ⟨rfl, .d (.int h.n), .d (.int (1 * h.n)), .d (.int ((h.n : Nat) / (h.n : Nat))), .d (encP (nm k h.B + -nm k h.B).1), .d (.int k), ?_⟩⟩
        · show [_, _, D.int (1 * ((k : Nat) : Int))] = _
          rw [Int.one_mul]
        · show [_, _, _, _, _, Sl.d (.int (0 + 1 * ((k : Nat) : Int))), _, _, _, _] = _
          rw [Int.one_mul, Int.zero_add]
      · cases hx
    · rintro ρ (⟨h, _⟩ | ⟨_, s4, s6, s7, s8, s9, rfl⟩)
      · cases h
      · exact hq
/-! multiple_of: slots 0 curve, 1 base, 2 order, 3 point, 4 found -/
def sp_multiple_of : Spd := fun ds Q => ∃ (h : Hm) (k : Nat), ds = [encC h.V, encP h.B.1, .int h.n, encP (nm k h.B).1] ∧ (h.n ≤ 2000 ∧ k < h.n) ∧ Q (.int k)
theorem sc_multiple_of : FnScope ["curve", "base", "order", "point", "found"] ["curve", "base", "order", "point"] (defScope (top 72)) := ⟨rfl, rfl, rfl, by decide +kernel, rfl, by decide +kernel, by decide +kernel⟩
theorem ok_multiple_of (A : Kt K mg base) : FnAt P w K mg base 7 "multiple_of" ["curve", "base", "order", "point"] sp_multiple_of := by
  obtain ⟨fd, F⟩ := A.fn 50 (d := dd "multiple_of" 72)
  refine fn_mk (A.glo 50) F sc_multiple_of (by decide) (fun _ _ _ _ _ _ us hl => match us, hl with | [_, _, _, _], _ => rfl) ?_ ?_
  · intro ds Q h
    obtain ⟨h, k, rfl, hn, hq⟩ := h
    rfl
  · intro E cdv A' outer s H Ex ds Qd hr h
    obtain ⟨h, k, rfl, hn, hq⟩ := h
    refine ⟨_, (pssc_cons (psc_if (ptc_not (ptc_val (pec_call (ok_has_order A) (hr.mono (by decide)) (pac_cons (pec_var (i := 0)) (pac_cons (pec_var (i := 1)) (pac_cons (pec_var (i := 2)) pac_nil)))))) (pssc_one psc_never) pssc_nil)
      (pssc_cons (psc_set (i := 4) sc_multiple_of.nd (pec_call (ok_figures_to A) (hr.mono (by decide)) (pac_cons (pec_var (i := 0)) (pac_cons (pec_var (i := 1)) (pac_cons (pec_var (i := 2)) (pac_cons (pec_var (i := 3)) pac_nil))))))
      (pssc_cons (psc_if (PWc.pt (pwc_or (pte_isN (pec_var (i := 4))) (pwc_or1 (pte_ne hr.units (pec_call (ok_times A) (hr.mono (by decide)) (pac_cons (pec_var (i := 0)) (pac_cons (pec_var (i := 1)) (pac_cons (pec_var (i := 4)) pac_nil)))) (pec_var (i := 3)))))) (pssc_one (psc_ret pec_non)) pssc_nil)
      (pssc_one (psc_ret (pec_var (i := 4))))))), ?_⟩
    obtain ⟨hn, hk⟩ := hn
    refine ⟨h, rfl, hn, (fun h => nomatch h), fun _ => ⟨h, k, rfl, ⟨hn, hk⟩, rfl, (fun h => nomatch h), fun _ => ⟨h.V, h.B, k, rfl, by omega, ?_⟩⟩⟩
    refine eq_encP (f := not) ?_
    rw [decide_eq_true rfl]
    exact ⟨(fun h => nomatch h), fun _ => hq⟩
end
end K75
set_option Elab.async false
set_option linter.all false
set_option maxRecDepth 100000
set_option maxHeartbeats 1000000
namespace K75
open PySem PySem.Spec PyProof.Rows L2 Cc Ec
section
variable {P : Program} {w : World} {K : PySem.W.Frag} {mg : Str → Option Value} {base : Heap}
theorem pe_pow6 {X : Cx} {p1 p2 p3 : Pos} {j1 j2 : Nat} : PE X (.BinOp (.Constant (.int 10) j1 p1) .Pow (.Constant (.int 6) j2 p2) p3) (tC (.int 1000000)) := by
  refine PE.imp (pe_op op_pow pe_int pe_int) fun σ H Q h => ⟨10, 6, rfl, rfl, ⟨by decide, by decide, by decide⟩, ?_⟩
  have e : (10 : Int) ^ (6 : Int).toNat = 1000000 := by decide
  show Q (.int ((10 : Int) ^ (6 : Int).toNat)) H
  rw [e]; exact h
theorem ite_dec {p : Prop} {inst : Decidable p} {A B : Prop} (h1 : p → A) (h2 : ¬ p → B) : if decide p = true then A else B := by
  by_cases h : p
  · exact ite_t (decide_eq_true h) (h1 h)
  · exact ite_f (decide_eq_false h) (h2 h)
theorem seq_mid {t u : TS} {D : Ends} {σ : L2.St} {H : Hp} (M : L2.St → Hp → Prop) (h1 : ∀ nx : L2.St → Hp → Prop, (∀ σ H, M σ H → nx σ H) → t { D with nx := nx } σ H) (h2 : ∀ σ H, M σ H → u D σ H) : tSeq t u D σ H := h1 _ h2
def sp__law_any : Spd := fun ds Q => ∃ b : Nat, ds = [.deal, .int b] ∧ (0 < b ∧ b < 2 ^ 200) ∧ ∀ r : Nat, r < b → Q (.int r)
theorem sc__law_any : FnScope ["deal", "bound", "found", "turn", "rest"] ["deal", "bound"] (defScope (top 75)) := ⟨rfl, rfl, rfl, by decide +kernel, rfl, by decide +kernel, by decide +kernel⟩
theorem ok__law_any (A : Kt K mg base) : FnAt P w K mg base 1 "_law_any" ["deal", "bound"] sp__law_any := by
  obtain ⟨fd, F⟩ := A.fn 52 (d := dd "_law_any" 75)
  refine ⟨⟨_, fd, A.glo 52, F.kp, F.bindsN (fun _ _ _ _ _ _ us hl => match us, hl with | [_, _], _ => rfl), F.look, F.ok sc__law_any (fun vs H Q E h => h.1) fun cdv A' outer s H vs Q Ex hr h => ?_⟩, ?_⟩
  · obtain ⟨hl, G, ds, Qd, c0, r, ⟨b, rfl, ⟨b0, b1⟩, hq⟩, o⟩ := h
    have hu := hr.units
    refine ⟨_, PSs.nox (pss_cons (ps_while .never (PW.pt (pw_and
        (pt_cmpR (L2.OpR.or op_ne (op_neD hu)) (pe_ix ix_seq (pe_var (i := 0) rfl (.inl rfl)) pe_int (fun _ _ => rfl)) (pe_lst pa_nil) rfl)
        (pw_and1 (pt_cmpR op_eq (pe_ix ix_seq (pe_ix ix_seq (pe_var (i := 0) rfl (.inl rfl)) pe_int (fun _ _ => rfl)) (pe_un un_neg pe_int) (fun _ _ => rfl)) pe_int rfl))))
        (pss_one (ps_expr (pe_bm0 PySem.F.plainAttrs_list PySem.F.slot_list_pop PySem.F.type_list_pop mt_pop (pe_ix ix_seq (pe_var (i := 0) rfl (.inl rfl)) pe_int (fun _ _ => rfl))))))
      (pss_cons (ps_if (pt_cmpR (L2.OpR.or op_ne (op_neD hu)) (pe_ix ix_seq (pe_var (i := 0) rfl (.inl rfl)) pe_int (fun _ _ => rfl)) (pe_lst pa_nil) rfl)
        (pss_cons (ps_set (i := 4) sc__law_any.nd rfl (.inl rfl) (pe_callTy call_int1 rfl (A.free 99) rfl (pa_cons (pe_bm0 PySem.F.plainAttrs_list PySem.F.slot_list_pop PySem.F.type_list_pop mt_pop (pe_ix ix_seq (pe_var (i := 0) rfl (.inl rfl)) pe_int (fun _ _ => rfl))) pa_nil)))
          (pss_cons (ps_expr (pe_bm PySem.F.plainAttrs_list PySem.F.slot_list_append PySem.F.type_list_append mt_append (pe_ix ix_seq (pe_var (i := 0) rfl (.inl rfl)) pe_int (fun _ _ => rfl)) (pa_cons (pe_op op_fdivW (pe_var (i := 4) rfl (.inl rfl)) (pe_var (i := 1) rfl (.inl rfl))) pa_nil)))
            (pss_one (ps_ret (pe_op op_mod (pe_var (i := 4) rfl (.inl rfl)) (pe_var (i := 1) rfl (.inl rfl))))))) pss_nil)
      (pss_cons (ps_set (i := 2) sc__law_any.nd rfl (.inl rfl) pe_int)
      (pss_cons (ps_for .never rfl (pi_range1 rfl (A.free 103) (pa_cons (pe_ifExp (pt_cmpR op_lt (pe_var (i := 1) rfl (.inl rfl)) pe_pow6 rfl) pe_int pe_int) pa_nil)) (pg_name (i := 3) sc__law_any.nd rfl (.inl rfl))
        (pss_cons (ps_augS (pe_var (i := 0) rfl (.inl rfl)) pe_int get_listN pe_int ip_add set_list)
          (pss_cons (ps_asg (pe_op op_mod (pe_callTy call_int1 rfl (A.free 99) rfl (pa_cons (pe_op op_add (pe_op op_add (pe_op op_mul (pe_ix ix_seq (pe_var (i := 0) rfl (.inl rfl)) pe_int (fun _ _ => rfl)) pe_int) (pe_op op_mul pe_int (pe_ix ix_seq (pe_var (i := 0) rfl (.inl rfl)) pe_int (fun _ _ => rfl)))) pe_int) pa_nil)) pe_int) (pg_sub (pe_var (i := 0) rfl (.inl rfl)) pe_int set_list))
            (pss_one (ps_set (i := 2) sc__law_any.nd rfl (.inl rfl) (pe_op op_add (pe_op op_mul (pe_var (i := 2) rfl (.inl rfl)) pe_int) (pe_op op_fdiv (pe_ix ix_seq (pe_var (i := 0) rfl (.inl rfl)) pe_int (fun _ _ => rfl)) pe_int)))))))
      (pss_one (ps_ret (pe_op op_mod (pe_callTy call_int1 rfl (A.free 99) rfl (pa_cons (pe_var (i := 2) rfl (.inl rfl)) pa_nil)) (pe_var (i := 1) rfl (.inl rfl))))))))), ?_⟩
    cases r with
    | cons r1 r2 =>
    cases r2 with
    | cons r2 r3 =>
    cases r3
    obtain ⟨d, rfl, gd⟩ := r1
    cases r2
    obtain ⟨c, ns, m, k, DA, gc⟩ := DealAt.start c0 gd
    have fin : ∀ (r : Nat) (ns' : List Int) (m' k' : Int) (H' : Hp), r < b → DealAt H d c ns' m' k' H' → Q (.int r) H' := fun r ns' m' k' H' hr DA' =>
      o _ (hq r hr) _ G H' (DA'.out c0 gd gc).1 (DA'.out c0 gd gc).2 rfl
    have finM : ∀ (x : Int) (ns' : List Int) (m' k' : Int) (H' : Hp), DealAt H d c ns' m' k' H' → Q (.int (x % (b : Nat))) H' := fun x ns' m' k' H' DA' => by
      have h1 := Int.emod_nonneg x (show ((b : Nat) : Int) ≠ 0 by omega)
      have h2 := Int.emod_lt_of_pos x (show (0 : Int) < (b : Nat) by omega)
      have e : x % (b : Nat) = ((x % (b : Nat)).toNat : Nat) := by omega
      rw [e]
      exact fin _ ns' m' k' H' (by omega) DA'
    refine seq_mid (fun σ H1 => σ = [some (.ref d), some (.int b), none, none, none] ∧ ∃ ns1, DealAt H d c ns1 m k H1) ?_ ?_
    · intro nx hnx
      refine ⟨fun n σ H1 => σ = [some (.ref d), some (.int b), none, none, none] ∧ ∃ ns1 : List Int, n = ns1.length ∧ DealAt H d c ns1 m k H1, ⟨_, rfl, ns, rfl, DA⟩, ?_⟩
      rintro n σ H1 ⟨rfl, ns1, rfl, D1⟩
      refine ⟨_, rfl, .inl ⟨d, _, 0, _, rfl, rfl, SqL.of D1.hd, rfl, Nat.zero_le _, fun p np => ?_⟩⟩
      have D2 := D1.new (o := .lst []) np
      refine ne_nil D2.hc upd_same ?_
      by_cases e : ns1 = []
      · exact ite_f (by simp [e]) (ite_f rfl (hnx _ _ ⟨rfl, _, D2⟩))
      · obtain ⟨ys, y, rfl⟩ := last_split e
        have hc' : upd H1 p (.lst []) c = some (.lst (ys.map V.int ++ [V.int y])) := by rw [D2.hc, List.map_append]; rfl
        refine ite_t (by simp) ⟨_, rfl, .inl ⟨d, _, 0, _, rfl, rfl, SqL.of D2.hd, rfl, 1, rfl, .inl ⟨c, _, -1, _, rfl, rfl, SqL.of hc', at_last _ _, rfl, _, rfl, ?_⟩⟩⟩
        by_cases ey : V.int y = V.int 0
        · refine ite_t (decide_eq_true ey) ⟨fun σ' H' => σ' = [some (.ref d), some (.int b), none, none, none] ∧ DealAt H d c ys m k H', fun σ' H' h => ⟨ys.length, by simp, h.1, ys, rfl, h.2⟩, ?_⟩
          refine ⟨_, rfl, .inl ⟨d, _, 0, _, rfl, rfl, SqL.of D2.hd, rfl, .inl ⟨rfl, _, SqL.of hc'⟩, c, _, .int y, rfl, rfl, hc', by simp, ?_⟩⟩
          rw [List.dropLast_concat]
          exact ⟨rfl, D2.setc (fun n hn => D2.nn n (by simp [hn])) (by have := D2.ln; simp at this; omega)⟩
        · exact ite_f (decide_eq_false ey) (hnx _ _ ⟨rfl, _, D2⟩)
    · rintro σ H1 ⟨rfl, ns1, D1⟩
      refine ⟨_, rfl, .inl ⟨d, _, 0, _, rfl, rfl, SqL.of D1.hd, rfl, Nat.zero_le _, fun p np => ?_⟩⟩
      have D2 := D1.new (o := .lst []) np
      refine ne_nil D2.hc upd_same ?_
      by_cases e : ns1 = []
      · refine ite_f (by simp [e]) ?_
        refine ⟨_, rfl, b, 1000000, rfl, rfl, decide (((b : Nat) : Int) < 1000000), rfl, ?_⟩
        generalize decide (((b : Nat) : Int) < 1000000) = bb
        cases bb
        · refine ite_f rfl ⟨4, ?_⟩
          refine ⟨rfl, by decide, by decide, fun i n σ H' => n = 10 - i ∧ i ≤ 4 ∧ ∃ f s3 m' k', σ = [some (.ref d), some (.int b), some (.int f), s3, none] ∧ DealAt H d c ns1 m' k' H', ⟨_, rfl, Nat.zero_le _, 0, none, m, k, rfl, D2⟩, ?_⟩
          rintro i n σ H' ⟨rfl, hi, f, s3, m', k', rfl, D3⟩
          by_cases hlt : i < 4
          · refine .inr ⟨hlt, fun σ' H'' => ∃ f s3 m' k', σ' = [some (.ref d), some (.int b), some (.int f), s3, none] ∧ DealAt H d c ns1 m' k' H'', fun σ' H'' h => ⟨_, by omega, rfl, hlt, h⟩, ?_⟩
            rintro x H'' ⟨rfl, rfl⟩
            refine ⟨_, rfl, d, _, _, 2, rfl, rfl, D3.hd, rfl, by decide, k', 1, rfl, rfl, ?_⟩
            refine ⟨d, _, 2, 2, rfl, rfl, D3.hd, rfl, ?_⟩
            have D4 := D3.setd D3.m0 D3.m1 (show 0 ≤ k' + 1 by have := D3.k0; omega)
            refine ⟨_, rfl, .inl ⟨d, _, 1, _, rfl, rfl, SqL.of D4.hd, rfl, m', 48271, rfl, rfl, .inr (by decide), _, rfl, .inl ⟨d, _, 2, _, rfl, rfl, SqL.of D4.hd, rfl, 69621, k' + 1, rfl, rfl, .inl (by decide), _, _, rfl, rfl, _, _, rfl, rfl, .inl ⟨_, rfl, ?_⟩⟩⟩⟩
            refine ⟨_, 2147483647, rfl, rfl, (show (0 : Int) < 2147483647 by decide), ?_⟩
            refine ⟨_, rfl, d, _, 1, 1, rfl, rfl, D4.hd, rfl, ?_⟩
            have D5 := D4.setd (m' := (m' * 48271 + 69621 * (k' + 1) + 41) % 2147483647) (Int.emod_nonneg _ (by decide)) (Int.emod_lt_of_pos _ (by decide)) D4.k0
            exact ⟨_, rfl, _, _, rfl, rfl, .inr (by decide), _, rfl, .inl ⟨d, _, 1, _, rfl, rfl, SqL.of D5.hd, rfl, _, _, rfl, rfl, ⟨by decide, by decide⟩, _, _, rfl, rfl, _, _, _, _, rfl, D5⟩⟩
          · exact .inl ⟨Nat.le_of_not_lt hlt, _, rfl, .inl ⟨f, rfl, _, rfl, f, b, rfl, rfl, by omega, finM f _ _ _ _ D3⟩⟩
        · refine ite_t rfl ⟨1, ?_⟩
          refine ⟨rfl, by decide, by decide, fun i n σ H' => n = 10 - i ∧ i ≤ 1 ∧ ∃ f s3 m' k', σ = [some (.ref d), some (.int b), some (.int f), s3, none] ∧ DealAt H d c ns1 m' k' H', ⟨_, rfl, Nat.zero_le _, 0, none, m, k, rfl, D2⟩, ?_⟩
          rintro i n σ H' ⟨rfl, hi, f, s3, m', k', rfl, D3⟩
          by_cases hlt : i < 1
          · refine .inr ⟨hlt, fun σ' H'' => ∃ f s3 m' k', σ' = [some (.ref d), some (.int b), some (.int f), s3, none] ∧ DealAt H d c ns1 m' k' H'', fun σ' H'' h => ⟨_, by omega, rfl, hlt, h⟩, ?_⟩
            rintro x H'' ⟨rfl, rfl⟩
            refine ⟨_, rfl, d, _, _, 2, rfl, rfl, D3.hd, rfl, by decide, k', 1, rfl, rfl, ?_⟩
            refine ⟨d, _, 2, 2, rfl, rfl, D3.hd, rfl, ?_⟩
            have D4 := D3.setd D3.m0 D3.m1 (show 0 ≤ k' + 1 by have := D3.k0; omega)
            refine ⟨_, rfl, .inl ⟨d, _, 1, _, rfl, rfl, SqL.of D4.hd, rfl, m', 48271, rfl, rfl, .inr (by decide), _, rfl, .inl ⟨d, _, 2, _, rfl, rfl, SqL.of D4.hd, rfl, 69621, k' + 1, rfl, rfl, .inl (by decide), _, _, rfl, rfl, _, _, rfl, rfl, .inl ⟨_, rfl, ?_⟩⟩⟩⟩
            refine ⟨_, 2147483647, rfl, rfl, (show (0 : Int) < 2147483647 by decide), ?_⟩
            refine ⟨_, rfl, d, _, 1, 1, rfl, rfl, D4.hd, rfl, ?_⟩
            have D5 := D4.setd (m' := (m' * 48271 + 69621 * (k' + 1) + 41) % 2147483647) (Int.emod_nonneg _ (by decide)) (Int.emod_lt_of_pos _ (by decide)) D4.k0
            exact ⟨_, rfl, _, _, rfl, rfl, .inr (by decide), _, rfl, .inl ⟨d, _, 1, _, rfl, rfl, SqL.of D5.hd, rfl, _, _, rfl, rfl, ⟨by decide, by decide⟩, _, _, rfl, rfl, _, _, _, _, rfl, D5⟩⟩
          · exact .inl ⟨Nat.le_of_not_lt hlt, _, rfl, .inl ⟨f, rfl, _, rfl, f, b, rfl, rfl, by omega, finM f _ _ _ _ D3⟩⟩
      · obtain ⟨ys, y, rfl⟩ := last_split e
        have hc' : upd H1 p (.lst []) c = some (.lst (ys.map V.int ++ [V.int y])) := by rw [D2.hc, List.map_append]; rfl
        have hy : 0 ≤ y := D2.nn y (by simp)
        refine ite_t (by simp) ?_
        refine ⟨_, rfl, .inl ⟨d, _, 0, _, rfl, rfl, SqL.of D2.hd, rfl, .inl ⟨rfl, _, SqL.of hc'⟩, c, _, .int y, rfl, rfl, hc', by simp, ?_⟩⟩
        rw [List.dropLast_concat]
        have D3 := D2.setc (ns' := ys) (fun n hn => D2.nn n (by simp [hn])) (by have := D2.ln; simp at this; omega)
        refine .inl ⟨y, rfl, ?_⟩
        refine ⟨_, rfl, .inl ⟨d, _, 0, _, rfl, rfl, SqL.of D3.hd, rfl, .inl ⟨rfl, _, SqL.of D3.hc⟩, _, rfl, _, rfl, y, b, rfl, rfl, (wide_div (b := 200) (by omega) (by omega) (by decide) (by decide)), c, ys.map V.int, _, rfl, rfl, D3.hc, ?_, ?_⟩⟩
        · have := D3.ln
          rw [List.length_map, sizeLine_eq]; omega
        have D4 := D3.setc (ns' := ys ++ [y / (b : Nat)]) (fun n hn => by
          rcases List.mem_append.mp hn with h | h
          · exact D3.nn n h
          · rw [List.mem_singleton.mp h]; exact Int.ediv_nonneg hy (by omega)) (by have := D2.ln; simp at this ⊢; omega)
        rw [List.map_append] at D4
        exact ⟨_, rfl, _, rfl, y, b, rfl, rfl, by omega, finM y _ _ _ _ D4⟩
  · rintro ds Q ⟨b, rfl, _⟩
    rfl
end
end K75
set_option Elab.async false
set_option linter.all false
set_option maxRecDepth 100000
set_option maxHeartbeats 1000000
namespace K75
open PySem PySem.Spec PyProof.Rows L2 Cc Ec
section
variable {P : Program} {w : World} {K : PySem.W.Frag} {mg : Str → Option Value} {base : Heap}
/-! _law_of: slots 0 deal, 1 some -/
def sp__law_of : Spd := fun ds Q => ∃ xs : List D, ds = [.deal, .lst xs] ∧ (0 < xs.length ∧ xs.length ≤ 100000) ∧ ∀ x ∈ xs, Q x
theorem atI_lt {α : Type} {xs : List α} {r : Nat} (h : r < xs.length) : ∃ x, atI xs (r : Nat) = some x ∧ x ∈ xs := ⟨xs[r], by
  have e : xs[r]? = some xs[r] := List.getElem?_eq_getElem h
  exact atI_nat e, List.getElem_mem h⟩
theorem sc__law_of : FnScope ["deal", "some"] ["deal", "some"] (defScope (top 76)) := ⟨rfl, rfl, rfl, by decide +kernel, rfl, by decide +kernel, by decide +kernel⟩
theorem ok__law_of (A : Kt K mg base) : FnAt P w K mg base 2 "_law_of" ["deal", "some"] sp__law_of := by
  obtain ⟨fd, F⟩ := A.fn 53 (d := dd "_law_of" 76)
  refine fn_mk (A.glo 53) F sc__law_of (by decide) (fun _ _ _ _ _ _ us hl => match us, hl with | [_, _], _ => rfl) ?_ ?_
  · intro ds Q h
    obtain ⟨xs, rfl, hx, hq⟩ := h
    rfl
  · intro E cdv A' outer s H Ex ds Qd hr h
    obtain ⟨xs, rfl, hx, hq⟩ := h
    refine ⟨_, (pssc_one (psc_ret (pec_ix (pec_var (i := 1)) (pec_call (ok__law_any A) (hr.mono (by decide)) (pac_cons (pec_var (i := 0)) (pac_cons (pec_lenc (A.free 101) (pac_cons (pec_var (i := 1)) pac_nil)) pac_nil))) (fun _ _ => rfl)))), ?_⟩
    refine ⟨xs.length, rfl, ⟨hx.1, by omega⟩, fun r hr => ?_⟩
    obtain ⟨x, e, hm⟩ := atI_lt hr
    exact ⟨x, e, hq x hm⟩
/-- data told whole -/
def pureN : Nat → D → Prop
  | _, .non => True
  | _, .bl _ => True
  | _, .int _ => True
  | _, .str _ => True
  | n + 1, .tup xs => xs.length ≤ 1000 ∧ ∀ x ∈ xs, pureN n x
  | _, _ => False
def sp_same : Nat → Spd
  | 0 => fun _ _ => False
  | n + 1 => fun ds Q => ∃ d, ds = [d, d] ∧ pureN n d ∧ Q (.bl true)
theorem k_it : kitB "int" "tuple" = some false := by decide +kernel
theorem k_is : kitB "int" "str" = some false := by decide +kernel
theorem k_st : kitB "str" "tuple" = some false := by decide +kernel
theorem k_ss : kitB "str" "str" = some true := by decide +kernel
theorem k_nt : kitB "NoneType" "tuple" = some false := by decide +kernel
theorem k_bt : kitB "bool" "tuple" = some false := by decide +kernel
/-! _law_same: slots 0 told, 1 due, 2 at -/
theorem sc__law_same : FnScope ["told", "due", "at"] ["told", "due"] (defScope (top 77)) := ⟨rfl, rfl, rfl, by decide +kernel, rfl, by decide +kernel, by decide +kernel⟩
theorem step__law_same (A : Kt K mg base) {n k : Nat} (Fr : FnAt P w K mg base k "_law_same" ["told", "due"] (sp_same n)) : FnAt P w K mg base (k + 1) "_law_same" ["told", "due"] (sp_same (n + 1)) := by
  obtain ⟨fd, F⟩ := A.fn 54 (d := dd "_law_same" 77)
  refine fn_mk (A.glo 54) F sc__law_same (by decide) (fun _ _ _ _ _ _ us hl => match us, hl with | [_, _], _ => rfl) ?_ ?_
  · intro ds Q h
    obtain ⟨d, rfl, hd, hq⟩ := h
    rfl
  · intro E cdv A' outer s H Ex ds Qd hr h
    obtain ⟨d, rfl, hd, hq⟩ := h
    refine ⟨_, (pssc_cons (psc_if (ptc_val (pec_isi (T := "tuple") (A.free 100) (A.free 107) rfl (pec_var (i := 1)))) (pssc_cons (psc_if (PWc.pt (pwc_or (ptc_not (ptc_val (pec_isi (T := "tuple") (A.free 100) (A.free 107) rfl (pec_var (i := 0))))) (pwc_or1 (pte_ne hr.units (pec_lenc (A.free 101) (pac_cons (pec_var (i := 0)) pac_nil)) (pec_lenc (A.free 101) (pac_cons (pec_var (i := 1)) pac_nil)))))) (pssc_one (psc_ret pec_bl)) pssc_nil)
      (pssc_one (psc_ret (pec_eq hr.units (pec_lenc (A.free 101) (pac_cons (pec_lcR (iv := 2) rfl sc__law_same.nd (A.free 103) (pac_cons (pec_lenc (A.free 101) (pac_cons (pec_var (i := 1)) pac_nil)) pac_nil) (blkOk_by (own := [("at", 2)]) rfl) (fun _ _ _ _ _ => pg_name sc__law_same.nd rfl (by first | exact .inl rfl | exact .inr rfl)) (fun _ _ _ _ _ => ptsc_one (ptc_not (ptc_val (pec_call Fr hr (pac_cons (pec_ix (pec_var (i := 0)) (pec_var (i := 2)) (fun _ _ => rfl)) (pac_cons (pec_ix (pec_var (i := 1)) (pec_var (i := 2)) (fun _ _ => rfl)) pac_nil)))))) (fun _ _ _ _ _ => (pec_var (i := 2)))) pac_nil)) pec_int)))) pssc_nil)
      (pssc_cons (psc_if (pte_isN (pec_var (i := 1))) (pssc_one (psc_ret (pec_isN (pec_var (i := 0))))) pssc_nil)
      (pssc_cons (psc_if (PWc.pt (pwc_or (pte_isB (pec_var (i := 1))) (pwc_or1 (pte_isB (pec_var (i := 1)))))) (pssc_one (psc_ret (pec_ifExp (ptc_val (pec_var (i := 1))) (pec_isB (pec_var (i := 0))) (pec_isB (pec_var (i := 0)))))) pssc_nil)
      (pssc_cons (psc_if (ptc_val (pec_isi (T := "str") (A.free 100) (A.free 105) rfl (pec_var (i := 1)))) (pssc_one (psc_ret (pec_and (pec_isi (T := "str") (A.free 100) (A.free 105) rfl (pec_var (i := 0))) (pec_one (pec_eq hr.units (pec_var (i := 0)) (pec_var (i := 1))))))) pssc_nil)
      (pssc_one (psc_ret (pec_and (pec_isi (T := "int") (A.free 100) (A.free 99) rfl (pec_var (i := 0))) (pec_and (pec_not (pec_isi (T := "bool") (A.free 100) (A.free 97) rfl (pec_var (i := 0)))) (pec_one (pec_eq hr.units (pec_var (i := 0)) (pec_var (i := 1)))))))))))), ?_⟩
    cases d with
    | non => exact ⟨"NoneType", false, rfl, k_nt, (fun h => nomatch h), fun _ => ⟨rfl, fun _ => ⟨rfl, hq⟩, (fun h => nomatch h)⟩⟩
    | bl b =>
      cases b with
      | true => exact ⟨"bool", false, rfl, k_bt, (fun h => nomatch h), fun _ => ⟨rfl, (fun h => nomatch h), fun _ => ⟨rfl, fun _ => ⟨fun _ => ⟨fun _ => ⟨rfl, hq⟩, (fun h => nomatch h)⟩, (fun h => nomatch h)⟩, (fun h => nomatch h)⟩⟩⟩
      | false => exact ⟨"bool", false, rfl, k_bt, (fun h => nomatch h), fun _ => ⟨rfl, (fun h => nomatch h), fun _ => ⟨rfl, (fun h => nomatch h), fun _ => ⟨rfl, fun _ => ⟨(fun h => nomatch h), fun _ => ⟨rfl, hq⟩⟩, (fun h => nomatch h)⟩⟩⟩⟩
    | int i => exact ⟨"int", false, rfl, k_it, (fun h => nomatch h), fun _ => ⟨rfl, (fun h => nomatch h), fun _ => ⟨rfl, (fun h => nomatch h), fun _ => ⟨rfl, (fun h => nomatch h), fun _ => ⟨"int", false, rfl, k_is, (fun h => nomatch h), fun _ => ⟨"int", true, rfl, k_ii, fun _ => ⟨"int", false, rfl, k_ib, fun _ => dec_t (Q := fun b => Qd (.bl b)) rfl hq, (fun h => nomatch h)⟩, (fun h => nomatch h)⟩⟩⟩⟩⟩⟩
    | str z => exact ⟨"str", false, rfl, k_st, (fun h => nomatch h), fun _ => ⟨rfl, (fun h => nomatch h), fun _ => ⟨rfl, (fun h => nomatch h), fun _ => ⟨rfl, (fun h => nomatch h), fun _ => ⟨"str", true, rfl, k_ss, fun _ => ⟨"str", true, rfl, k_ss, fun _ => dec_t (Q := fun b => Qd (.bl b)) rfl hq, (fun h => nomatch h)⟩, (fun h => nomatch h)⟩⟩⟩⟩⟩
    | tup xs =>
      cases n with
      | zero => exact hd.elim
      | succ n =>
      obtain ⟨hl, hx⟩ := (show xs.length ≤ 1000 ∧ ∀ x ∈ xs, pureN n x from hd)
      refine ⟨"tuple", true, rfl, k_tt, fun _ => ⟨"tuple", true, rfl, k_tt, (fun h => nomatch h), fun _ => ?_⟩, (fun h => nomatch h)⟩
      refine ⟨fun h => absurd h (by simp), fun _ => ?_⟩
      refine ⟨by omega, by omega, fun i acc => acc = [], rfl, ?_, ?_⟩
      · rintro i x acc hi rfl rfl
        have hi : i < xs.length := by simpa using hi
        have e : xs[i]? = some xs[i] := List.getElem?_eq_getElem hi
        exact ⟨xs[i], atI_nat e, xs[i], atI_nat e, xs[i], rfl, hx _ (List.getElem_mem hi), (fun h => nomatch h), fun _ => rfl⟩
      · rintro acc rfl
        exact dec_t (Q := fun b => Qd (.bl b)) rfl hq
    | _ => cases n <;> exact (show False from hd).elim
theorem same0 (A : Kt K mg base) : FnAt P w K mg base 0 "_law_same" ["told", "due"] (sp_same 0) := by
  obtain ⟨fd, F⟩ := A.fn 54 (d := dd "_law_same" 77)
  exact ⟨⟨_, fd, A.glo 54, F.kp, F.bindsN (fun _ _ _ _ _ _ us hl => match us, hl with | [_, _], _ => rfl), F.look, ⟨fun vs H Q E h => h.1, fun _ _ _ _ _ _ _ _ _ _ _ _ _ h => by obtain ⟨_, _, _, _, _, _, h, _⟩ := h; exact h.elim⟩⟩, fun _ _ h => h.elim⟩
def sp__law_same : Spd := sp_same 5
theorem ok__law_same (A : Kt K mg base) : FnAt P w K mg base 5 "_law_same" ["told", "due"] sp__law_same :=
  step__law_same A (step__law_same A (step__law_same A (step__law_same A (step__law_same A (same0 A)))))
end
end K75
set_option Elab.async false
set_option linter.all false
set_option maxRecDepth 100000
set_option maxHeartbeats 1000000
namespace K75
open PySem PySem.Spec PyProof.Rows L2 Cc Ec
section
variable {P : Program} {w : World} {K : PySem.W.Frag} {mg : Str → Option Value} {base : Heap}
theorem dseq_mid {ts us : TSd} {D : Es} {ρ : En} (M : En → Prop) (h1 : ∀ nx : En → Prop, (∀ ρ, M ρ → nx ρ) → ts { D with nx := nx } ρ) (h2 : ∀ ρ, M ρ → us D ρ) : dSeq ts us D ρ := h1 _ h2
/-- pairs of the row 1, 1, 2, 3, 5, .. -/
def fbp : Nat → Nat × Nat
  | 0 => (0, 1)
  | n + 1 => ((fbp n).2, (fbp n).1 + (fbp n).2)
def fb (n : Nat) : Nat := (fbp n).1
theorem fb_succ (n : Nat) : fb (n + 2) = fb n + fb (n + 1) := rfl
theorem fb_big : 2 ^ 61 < fb 102 := by decide +kernel
def lame (n : Nat) (low high : Int) : Prop := high < (fb (n + 2) : Nat) ∨ low < (fb (n + 1) : Nat)
theorem lame_step {n : Nat} {low high : Int} (h0 : 0 < low) (h : low < high) (L : lame (n + 1) low high) : lame n (high - high / low * low) low := by
  by_cases h2 : low < (fb (n + 2) : Nat)
  · exact .inl h2
  · refine .inr ?_
    rcases L with L | L
    · have e : fb (n + 1 + 2) = fb (n + 1) + fb (n + 2) := fb_succ (n + 1)
      rw [e] at L
      have hd : 1 ≤ high / low := by
        have := Int.ediv_le_ediv h0 (Int.le_of_lt h)
        rwa [Int.ediv_self (by omega)] at this
      have := Int.mul_le_mul_of_nonneg_right hd (Int.le_of_lt h0)
      omega
    · exact absurd L h2
theorem lame_end {low high : Int} (h0 : 0 ≤ low) (h : low < high) (L : lame 0 low high) : low = 0 := by
  rcases L with L | L
  · have : fb 2 = 1 := rfl
    rw [show fb (0 + 2) = 1 from rfl] at L; omega
  · rw [show fb (0 + 1) = 1 from rfl] at L; omega
/-! _law_back: slots 0 p, 1 often, 2 turn, 3 low, 4 high, 5 one, 6 other, 7 many -/
def sp__law_back : Spd := fun ds Q => ∃ (p : Nat) (hp : Prm p) (hb : Bd p) (i : Int), ds = [.int p, .int i] ∧ fi p i ≠ 0 ∧ Q (.int ((fi p i)⁻¹).v)
theorem sc__law_back : FnScope ["p", "often", "turn", "low", "high", "one", "other", "many"] ["p", "often"] (defScope (top 78)) := ⟨rfl, rfl, rfl, by decide +kernel, rfl, by decide +kernel, by decide +kernel⟩
theorem ok__law_back (A : Kt K mg base) : FnAt P w K mg base 1 "_law_back" ["p", "often"] sp__law_back := by
  obtain ⟨fd, F⟩ := A.fn 55 (d := dd "_law_back" 78)
  refine fn_mk (A.glo 55) F sc__law_back (by decide) (fun _ _ _ _ _ _ us hl => match us, hl with | [_, _], _ => rfl) ?_ ?_
  · intro ds Q h
    obtain ⟨p, hp, hb, i, rfl, h0, hq⟩ := h
    rfl
  · intro E cdv A' outer s H Ex ds Qd hr h
    obtain ⟨p, hp, hb, i, rfl, h0, hq⟩ := h
    refine ⟨_, (pssc_cons (psc_asg (pec_tup (pac_cons (pec_mod (pec_intc (A.free 99) (pac_cons (pec_var (i := 1)) pac_nil)) (pec_var (i := 0))) (pac_cons (pec_var (i := 0)) (pac_cons pec_int (pac_cons pec_int pac_nil))))) (pgc_tup rfl (pgsc_cons (pgc_name (i := 3) sc__law_back.nd) (pgsc_cons (pgc_name (i := 4) sc__law_back.nd) (pgsc_cons (pgc_name (i := 5) sc__law_back.nd) (pgsc_cons (pgc_name (i := 6) sc__law_back.nd) pgsc_nil))))))
      (pssc_cons (psc_forR1 .never rfl (A.free 103) (pac_cons pec_int pac_nil) (pgc_name (i := 2) sc__law_back.nd) (pssc_cons (psc_if (pte_eq hr.units (pec_var (i := 3)) pec_int) (pssc_one psc_break) pssc_nil)
      (pssc_cons (psc_set (i := 7) sc__law_back.nd (pec_div (pec_var (i := 4)) (pec_var (i := 3))))
      (pssc_one (psc_asg (pec_tup (pac_cons (pec_sub (pec_var (i := 4)) (pec_mul (pec_var (i := 7)) (pec_var (i := 3)))) (pac_cons (pec_var (i := 3)) (pac_cons (pec_sub (pec_var (i := 6)) (pec_mul (pec_var (i := 7)) (pec_var (i := 5)))) (pac_cons (pec_var (i := 5)) pac_nil))))) (pgc_tup rfl (pgsc_cons (pgc_name (i := 3) sc__law_back.nd) (pgsc_cons (pgc_name (i := 4) sc__law_back.nd) (pgsc_cons (pgc_name (i := 5) sc__law_back.nd) (pgsc_cons (pgc_name (i := 6) sc__law_back.nd) pgsc_nil))))))))))
      (pssc_one (psc_ret (pec_mod (pec_intc (A.free 99) (pac_cons (pec_var (i := 6)) pac_nil)) (pec_var (i := 0))))))), ?_⟩
    have pp := ppos p
    have hp2 := hp.pr.1
    have hb2 := hb.h
    refine ⟨pp, rfl, rfl, ⟨by decide, by decide⟩, ?_⟩
    have m0 := Int.emod_nonneg i (show (p : Int) ≠ 0 by omega)
    have m1 := Int.emod_lt_of_pos i pp
    have fin : ∀ (other : Int) (high : Int), fi p i * fi p other = fi p high → high = 1 → Qd (.int (other % p)) := fun other high h e => by
      rw [e] at h
      exact toF hq (zp_inv_unique h).symm
    refine ⟨fun k ρ => ∃ (low high one other : Int) (s2 s7 : Cc.Sl), ρ = [.d (.int p), .d (.int i), s2, .d (.int low), .d (.int high), .d (.int one), .d (.int other), s7] ∧ 0 ≤ low ∧ low < high ∧ high ≤ p ∧ fi p i * fi p one = fi p low ∧ fi p i * fi p other = fi p high ∧ (one.natAbs : Int) * high + other.natAbs * low ≤ p ∧ Int.gcd high low = 1 ∧ (k ≤ 100 → lame (100 - k) low high), ?_, ?_, ?_⟩
    · refine ⟨i % p, p, 1, 0, _, _, rfl, m0, m1, Int.le_refl _, ?_, ?_, by simp, ?_, fun _ => .inl ?_⟩
      · rw [fi1, Lean.Grind.Semiring.mul_one, fi_mod]
      · rw [fi0, Lean.Grind.Semiring.mul_zero]; exact (fi_zero_iff.mpr (Int.dvd_refl _)).symm
      · have hne : i % (p : Int) ≠ 0 := fun z => h0 (mod_zero.mp z)
        have hd : Int.gcd p (i % p) ∣ p := by
          have := Int.gcd_dvd_left (a := (p : Int)) (b := i % p)
          exact Int.natCast_dvd_natCast.mp this
        rcases hp.pr.2 _ hd with q | q
        · exact q
        · exfalso
          have hd2 : (p : Int) ∣ i % p := by
            have := Int.gcd_dvd_right (a := (p : Int)) (b := i % p)
            rw [q] at this
            exact this
          have := Int.le_of_dvd (by omega) hd2
          omega
      · have := fb_big
        show (p : Int) < ((fb 102 : Nat) : Int)
        omega
    · rintro k ρ hk ⟨low, high, one, other, s2, s7, rfl, g0, g1, g2, g3, g4, g5, g6, g7⟩
      have hk : k < 100 := hk
      have g7 := g7 (by omega)
      refine ⟨fun hb => ?_, fun hb => ?_⟩
      · have hz : low = 0 := of_decide_eq_true hb
        subst hz
        have one1 : high = 1 := by
          rw [Int.gcd_zero_right] at g6
          omega
        exact ⟨pp, fin other high g4 one1⟩
      · have hne : low ≠ 0 := of_decide_eq_false hb
        have hpos : 0 < low := by omega
        have hs : (one.natAbs : Int) ≤ p := by
          have : ((other.natAbs : Int) * low) = ((other.natAbs * low.natAbs : Nat) : Int) := by rw [Int.natCast_mul, Int.natAbs_of_nonneg g0]
          rw [this] at g5
          exact nat_le_of_mul (by omega) g5
        have hr := Int.mul_ediv_add_emod high low
        have r0 : 0 ≤ high % low := Int.emod_nonneg _ hne
        have r1 : high % low < low := Int.emod_lt_of_pos _ hpos
        have er : high - high / low * low = high % low := by rw [Int.mul_comm]; omega
        have hd0 : 0 ≤ high / low := Int.ediv_nonneg (by omega) g0
        have hd1 : high / low ≤ high := Int.ediv_le_self _ (by omega)
        haveI z1 : Sz 61 low := ⟨by omega⟩
        haveI z2 : Sz 61 (high / low) := ⟨by omega⟩
        haveI z3 : Sz 61 one := ⟨by omega⟩
        refine ⟨cdW hpos, cmW, cmW, rfl, rfl, ?_⟩
        refine ⟨high - high / low * low, low, other - high / low * one, one, _, .d (.int (high / low)), rfl, by omega, by omega, by omega, ?_, g3, euclid_step hpos (by omega) g5, ?_, fun _ => ?_⟩
        · rw [fi_sub', fi_mul', fi_sub', fi_mul', ← g3, ← g4]; grind
        · rw [er, Int.gcd_comm, gcd_step, g6]
        · have : 100 - k = (100 - (k + 1)) + 1 := by omega
          rw [this] at g7
          exact lame_step hpos g1 g7
    · rintro ρ ⟨low, high, one, other, s2, s7, rfl, g0, g1, g2, g3, g4, g5, g6, g7⟩
      have hz := lame_end g0 g1 (g7 (by decide))
      subst hz
      have one1 : high = 1 := by
        rw [Int.gcd_zero_right] at g6
        omega
      exact ⟨pp, fin other high g4 one1⟩
/-! _law_sum: slots 0 cubic, 1 one, 2 other, 3 x, 4 p, 5 a, 6 b, 7 slope_v -/
def sp__law_sum : Spd := fun ds Q => ∃ (V : Cv) (X Y : G V.C), ds = [encC V, encP X.1, encP Y.1] ∧ Q (encP (X + Y).1)
theorem sc__law_sum : FnScope ["cubic", "one", "other", "x", "p", "a", "b", "slope_v"] ["cubic", "one", "other"] (defScope (top 79)) := ⟨rfl, rfl, rfl, by decide +kernel, rfl, by decide +kernel, by decide +kernel⟩
theorem ok__law_sum (A : Kt K mg base) : FnAt P w K mg base 2 "_law_sum" ["cubic", "one", "other"] sp__law_sum := by
  obtain ⟨fd, F⟩ := A.fn 56 (d := dd "_law_sum" 79)
  refine fn_mk (A.glo 56) F sc__law_sum (by decide) (fun _ _ _ _ _ _ us hl => match us, hl with | [_, _, _], _ => rfl) ?_ ?_
  · intro ds Q h
    obtain ⟨V, X, Y, rfl, hq⟩ := h
    rfl
  · intro E cdv A' outer s H Ex ds Qd hr h
    obtain ⟨V, X, Y, rfl, hq⟩ := h
    refine ⟨_, (pssc_cons (psc_asg (pec_var (i := 0)) (pgc_tup rfl (pgsc_cons (pgc_name (i := 4) sc__law_sum.nd) (pgsc_cons (pgc_name (i := 5) sc__law_sum.nd) (pgsc_cons (pgc_name (i := 6) sc__law_sum.nd) pgsc_nil)))))
      (pssc_cons (psc_if (PWc.pt (pwc_or (pte_eq hr.units (pec_var (i := 1)) (pec_tup pac_nil)) (pwc_or1 (pte_eq hr.units (pec_var (i := 2)) (pec_tup pac_nil))))) (pssc_one (psc_ret (pec_ifExp (pte_eq hr.units (pec_var (i := 1)) (pec_tup pac_nil)) (pec_var (i := 2)) (pec_var (i := 1))))) pssc_nil)
      (pssc_cons (psc_if (PWc.pt (pwc_and (pte_eq hr.units (pec_item (k := 0) (pec_var (i := 1))) (pec_item (k := 0) (pec_var (i := 2)))) (pwc_and1 (pte_eq hr.units (pec_mod (pec_intc (A.free 99) (pac_cons (pec_addI (pec_item (k := 1) (pec_var (i := 1))) (pec_item (k := 1) (pec_var (i := 2)))) pac_nil)) (pec_var (i := 4))) pec_int)))) (pssc_one (psc_ret (pec_tup pac_nil))) pssc_nil)
      (pssc_cons (psc_if (pte_eq hr.units (pec_var (i := 1)) (pec_var (i := 2))) (pssc_one (psc_set (i := 7) sc__law_sum.nd (pec_mul (pec_intc (A.free 99) (pac_cons (pec_addI (pec_mul (pec_mul pec_int (pec_item (k := 0) (pec_var (i := 1)))) (pec_item (k := 0) (pec_var (i := 1)))) (pec_var (i := 5))) pac_nil)) (pec_call (ok__law_back A) (hr.mono (by decide)) (pac_cons (pec_var (i := 4)) (pac_cons (pec_mul pec_int (pec_item (k := 1) (pec_var (i := 1)))) pac_nil)))))) (pssc_one (psc_set (i := 7) sc__law_sum.nd (pec_mul (pec_intc (A.free 99) (pac_cons (pec_sub (pec_item (k := 1) (pec_var (i := 2))) (pec_item (k := 1) (pec_var (i := 1)))) pac_nil)) (pec_call (ok__law_back A) (hr.mono (by decide)) (pac_cons (pec_var (i := 4)) (pac_cons (pec_sub (pec_item (k := 0) (pec_var (i := 2))) (pec_item (k := 0) (pec_var (i := 1)))) pac_nil)))))))
      (pssc_cons (psc_set (i := 3) sc__law_sum.nd (pec_mod (pec_intc (A.free 99) (pac_cons (pec_sub (pec_sub (pec_mul (pec_var (i := 7)) (pec_var (i := 7))) (pec_item (k := 0) (pec_var (i := 1)))) (pec_item (k := 0) (pec_var (i := 2)))) pac_nil)) (pec_var (i := 4))))
      (pssc_one (psc_ret (pec_tup (pac_cons (pec_var (i := 3)) (pac_cons (pec_mod (pec_intc (A.free 99) (pac_cons (pec_sub (pec_mul (pec_var (i := 7)) (pec_sub (pec_item (k := 0) (pec_var (i := 1))) (pec_var (i := 3)))) (pec_item (k := 1) (pec_var (i := 1)))) pac_nil)) (pec_var (i := 4))) pac_nil)))))))))), ?_⟩
    obtain ⟨X, hX⟩ := X
    obtain ⟨Y, hY⟩ := Y
    match X, Y, hX, hY with
    | none, Y, hX, hY => exact ⟨rfl, rfl, [], [], rfl, rfl, fun _ => ⟨fun _ => ⟨rfl, [], [], rfl, rfl, fun _ => hq, (fun h => nomatch h)⟩, (fun h => nomatch h)⟩, (fun h => nomatch h)⟩
    | some (x, y), none, hX, hY => exact ⟨rfl, rfl, [x.v, y.v], [], rfl, rfl, fun h => absurd h (by simp), fun _ => ⟨rfl, [], [], rfl, rfl, fun _ => ⟨rfl, [x.v, y.v], [], rfl, rfl, fun h => absurd h (by simp), fun _ => hq⟩, (fun h => nomatch h)⟩⟩
    | some (x, y), some (x2, y2), hX, hY =>
      refine ⟨rfl, rfl, [x.v, y.v], [], rfl, rfl, fun h => absurd h (by simp), fun _ => ⟨rfl, [x2.v, y2.v], [], rfl, rfl, fun h => absurd h (by simp), fun _ => ?_⟩⟩
      dsimp only [dNext]
      refine dseq_mid (ts := dIfS _ _ _) (us := dSeq _ _) (fun ρ => ρ = [.d (encC V), .d (encP (some (x, y))), .d (encP (some (x2, y2))), .no, .d (.int V.p), .d (.int V.C.a.v), .d (.int V.C.b.v), .no] ∧ ¬ (x = x2 ∧ y + y2 = 0)) ?_ ?_
      · intro nx hnx
        refine ⟨fun hb => ?_, fun hb => ⟨(fun h => nomatch h), fun _ => hnx _ ⟨rfl, fun q => (of_decide_eq_false hb) (by rw [q.1])⟩⟩⟩
        have h1 : x = x2 := Ec.Zp.ext (of_decide_eq_true hb)
        refine ⟨ppos V.p, fun hb2 => ?_, fun hb2 => hnx _ ⟨rfl, fun q => (of_decide_eq_false hb2) ?_⟩⟩
        · have h2 : (y.v + y2.v) % (V.p : Int) = 0 := of_decide_eq_true hb2
          rw [mod_zero, fi_add', fi_val, fi_val] at h2
          have e : (⟨some (x, y), hX⟩ + ⟨some (x2, y2), hY⟩ : G V.C).1 = none := add_opp h1 h2
          rw [e] at hq
          exact ⟨rfl, hq⟩
        · rw [mod_zero, fi_add', fi_val, fi_val]; exact q.2
      · rintro ρ ⟨rfl, n⟩
        refine dseq_mid (ts := dIfS _ _ _) (us := dSeq _ _) (fun ρ => ∃ sv : Int, ρ = [.d (encC V), .d (encP (some (x, y))), .d (encP (some (x2, y2))), .no, .d (.int V.p), .d (.int V.C.a.v), .d (.int V.C.b.v), .d (.int sv)] ∧ fi V.p sv = slp V.C.a x y x2 y2 ∧ sv.natAbs < 2 ^ 500) ?_ ?_
        · intro nx hnx
          have h2 := V.C.h2
          refine ⟨[x.v, y.v], [x2.v, y2.v], rfl, rfl, fun hb => ?_, fun hb => ?_⟩
          · have he : [x.v, y.v] = [x2.v, y2.v] := of_decide_eq_true hb
            injection he with e1 e2
            injection e2 with e2 _
            have e1 : x = x2 := Ec.Zp.ext e1
            have e2 : y = y2 := Ec.Zp.ext e2
            subst e1 e2
            have hy : y + y ≠ 0 := fun q => n ⟨rfl, q⟩
            have e3 : fi V.p (2 * y.v) = 2 * y := by rw [fi_mul', fi_val, fi2]
            refine ⟨cmW, cmW, cmW, V.p, V.hp, V.hb, 2 * y.v, rfl, ?_, cmW, hnx _ ⟨_, rfl, ?_, ?_⟩⟩
            · rw [e3]; grind
            · simp only [fi_add', fi_mul', fi_val, fi3]
              rw [fi2]
              exact (if_pos rfl).symm
            · exact Nat.lt_of_lt_of_le (sz_mul (x := 3 * x.v * x.v + V.C.a.v) (y := (fi V.p (2 * y.v))⁻¹.v)).h (Nat.pow_le_pow_right (by decide) (by decide))
          · have h1 : x ≠ x2 := fun q => by
              have h3 : y * y = x * x * x + V.C.a * x + V.C.b := hX
              have h4 : y2 * y2 = x2 * x2 * x2 + V.C.a * x2 + V.C.b := hY
              subst q
              have hy : y + y2 ≠ 0 := fun q => n ⟨rfl, q⟩
              have : y = y2 := by grind
              exact (of_decide_eq_false hb) (by rw [this])
            have e3 : fi V.p (x2.v - x.v) = x2 - x := by rw [fi_sub', fi_val, fi_val]
            refine ⟨V.p, V.hp, V.hb, x2.v - x.v, rfl, ?_, cmW, hnx _ ⟨_, rfl, ?_, ?_⟩⟩
            · rw [e3]; grind
            · simp only [fi_sub', fi_mul', fi_val]
              exact (if_neg h1).symm
            · exact Nat.lt_of_lt_of_le (sz_mul (x := y2.v - y.v) (y := (fi V.p (x2.v - x.v))⁻¹.v)).h (Nat.pow_le_pow_right (by decide) (by decide))
        · rintro ρ ⟨sv, rfl, hs, hz⟩
          haveI : Sz 500 sv := ⟨hz⟩
          refine ⟨cmW, ppos V.p, cmW, ppos V.p, rfl, ?_⟩
          have s := slp_ok V.C.h2 hX hY n
          refine toP hq (add_eq V.C.h2 hX hY n s) ?_ ?_
          · simp only [fi_sub', fi_mul', fi_val, hs]
          · simp only [fi_sub', fi_mul', fi_val, fi_mod, hs]
/-! _law_facing: slots 0 cubic, 1 spot -/
def sp__law_facing : Spd := fun ds Q => ∃ (V : Cv) (X : G V.C), ds = [encC V, encP X.1] ∧ Q (encP (-X).1)
theorem sc__law_facing : FnScope ["cubic", "spot"] ["cubic", "spot"] (defScope (top 80)) := ⟨rfl, rfl, rfl, by decide +kernel, rfl, by decide +kernel, by decide +kernel⟩
theorem ok__law_facing (A : Kt K mg base) : FnAt P w K mg base 1 "_law_facing" ["cubic", "spot"] sp__law_facing := by
  obtain ⟨fd, F⟩ := A.fn 57 (d := dd "_law_facing" 80)
  refine fn_mk (A.glo 57) F sc__law_facing (by decide) (fun _ _ _ _ _ _ us hl => match us, hl with | [_, _], _ => rfl) ?_ ?_
  · intro ds Q h
    obtain ⟨V, X, rfl, hq⟩ := h
    rfl
  · intro E cdv A' outer s H Ex ds Qd hr h
    obtain ⟨V, X, rfl, hq⟩ := h
    refine ⟨_, (pssc_one (psc_ret (pec_ifExp (pte_eq hr.units (pec_var (i := 1)) (pec_tup pac_nil)) (pec_tup pac_nil) (pec_tup (pac_cons (pec_item (k := 0) (pec_var (i := 1))) (pac_cons (pec_mod (pec_intc (A.free 99) (pac_cons (pec_neg (pec_item (k := 1) (pec_var (i := 1)))) pac_nil)) (pec_item (k := 0) (pec_var (i := 0)))) pac_nil)))))), ?_⟩
    obtain ⟨X, hX⟩ := X
    match X, hX with
    | none, hX => exact ⟨rfl, [], [], rfl, rfl, fun _ => ⟨rfl, hq⟩, (fun h => nomatch h)⟩
    | some (x, y), hX => exact ⟨rfl, [x.v, y.v], [], rfl, rfl, fun h => absurd h (by simp), fun _ => ⟨ppos V.p, rfl, hq⟩⟩
def enc3 {p : Nat} (x y z : Zp p) : D := .tup [.int x.v, .int y.v, .int z.v]
theorem to3 {p : Nat} [Prm p] {Qd : D → Prop} {e f g : Int} {r s t : Zp p} (hq : Qd (enc3 r s t)) (h : fi p e = r) (h' : fi p f = s) (h'' : fi p g = t) : Qd (.tup [.int (e % p), .int (f % p), .int (g % p)]) := by
  rw [← h, ← h', ← h''] at hq; exact hq
section
variable {p : Nat} [Prm p] (a X Y Z : Zp p)
def tsl : Zp p := 3 * X * X + a * Z * Z * Z * Z
def tsd : Zp p := 4 * X * (Y * Y)
def tlf : Zp p := tsl a X Z * tsl a X Z - 2 * tsd X Y
end
/-! _law_twice: slots 0 p, 1 a, 2 place, 3 square, 4 left, 5 x, 6 y, 7 z, 8 side, 9 slope_v -/
def sp__law_twice : Spd := fun ds Q => ∃ (V : Cv) (x y z : Zp V.p), ds = [.int V.p, .int V.C.a.v, enc3 x y z] ∧ Q (enc3 (tlf V.C.a x y z) (tsl V.C.a x z * (tsd x y - tlf V.C.a x y z) - 8 * (y * y) * (y * y)) (2 * y * z))
theorem sc__law_twice : FnScope ["p", "a", "place", "square", "left", "x", "y", "z", "side", "slope_v"] ["p", "a", "place"] (defScope (top 81)) := ⟨rfl, rfl, rfl, by decide +kernel, rfl, by decide +kernel, by decide +kernel⟩
theorem ok__law_twice (A : Kt K mg base) : FnAt P w K mg base 1 "_law_twice" ["p", "a", "place"] sp__law_twice := by
  obtain ⟨fd, F⟩ := A.fn 58 (d := dd "_law_twice" 81)
  refine fn_mk (A.glo 58) F sc__law_twice (by decide) (fun _ _ _ _ _ _ us hl => match us, hl with | [_, _, _], _ => rfl) ?_ ?_
  · intro ds Q h
    obtain ⟨V, x, y, z, rfl, hq⟩ := h
    rfl
  · intro E cdv A' outer s H Ex ds Qd hr h
    obtain ⟨V, x, y, z, rfl, hq⟩ := h
    refine ⟨_, (pssc_cons (psc_asg (pec_var (i := 2)) (pgc_tup rfl (pgsc_cons (pgc_name (i := 5) sc__law_twice.nd) (pgsc_cons (pgc_name (i := 6) sc__law_twice.nd) (pgsc_cons (pgc_name (i := 7) sc__law_twice.nd) pgsc_nil)))))
      (pssc_cons (psc_set (i := 3) sc__law_twice.nd (pec_mod (pec_intc (A.free 99) (pac_cons (pec_mul (pec_var (i := 6)) (pec_var (i := 6))) pac_nil)) (pec_var (i := 0))))
      (pssc_cons (psc_par (i := 8) (j := 9) rfl sc__law_twice.nd (pac_cons (pec_mod (pec_intc (A.free 99) (pac_cons (pec_mul (pec_mul pec_int (pec_var (i := 5))) (pec_var (i := 3))) pac_nil)) (pec_var (i := 0))) (pac_cons (pec_mod (pec_intc (A.free 99) (pac_cons (pec_addI (pec_mul (pec_mul pec_int (pec_var (i := 5))) (pec_var (i := 5))) (pec_mul (pec_mul (pec_mul (pec_mul (pec_var (i := 1)) (pec_var (i := 7))) (pec_var (i := 7))) (pec_var (i := 7))) (pec_var (i := 7)))) pac_nil)) (pec_var (i := 0))) pac_nil)))
      (pssc_cons (psc_set (i := 4) sc__law_twice.nd (pec_mod (pec_intc (A.free 99) (pac_cons (pec_sub (pec_mul (pec_var (i := 9)) (pec_var (i := 9))) (pec_mul pec_int (pec_var (i := 8)))) pac_nil)) (pec_var (i := 0))))
      (pssc_one (psc_ret (pec_tup (pac_cons (pec_var (i := 4)) (pac_cons (pec_mod (pec_intc (A.free 99) (pac_cons (pec_sub (pec_mul (pec_var (i := 9)) (pec_sub (pec_var (i := 8)) (pec_var (i := 4)))) (pec_mul (pec_mul pec_int (pec_var (i := 3))) (pec_var (i := 3)))) pac_nil)) (pec_var (i := 0))) (pac_cons (pec_mod (pec_intc (A.free 99) (pac_cons (pec_mul (pec_mul pec_int (pec_var (i := 6))) (pec_var (i := 7))) pac_nil)) (pec_var (i := 0))) pac_nil)))))))))), ?_⟩
    refine ⟨rfl, cmW, ppos V.p, cmW, cmW, ppos V.p, cmW, cmW, cmW, cmW, cmW, cmW, ppos V.p, cmW, cmW, ppos V.p, cmW, cmW, cmW, ppos V.p, cmW, cmW, ppos V.p, rfl, ?_⟩
    refine to3 hq ?_ ?_ ?_ <;> simp only [tlf, tsl, tsd, fi_add', fi_sub', fi_mul', fi_mod, fi_val, fi2, fi3, fi4, fi8]
/-! _law_beside: slots 0 p, 1 a, 2 place, 3 one, 4 square, 5 left, 6 x, 7 y, 8 z, 9 far, 10 rise, 11 cube, 12 side -/
def sp__law_beside : Spd := fun ds Q => ∃ (V : Cv) (x y z x2 y2 : Zp V.p), ds = [.int V.p, .int V.C.a.v, enc3 x y z, encP (some (x2, y2))] ∧ (z = 0 → Q (enc3 x2 y2 1)) ∧ (z ≠ 0 → x2 * (z * z) - x = 0 → y2 * (z * z) * z - y = 0 → Q (enc3 (tlf V.C.a x y z) (tsl V.C.a x z * (tsd x y - tlf V.C.a x y z) - 8 * (y * y) * (y * y)) (2 * y * z))) ∧
  (z ≠ 0 → x2 * (z * z) - x = 0 → y2 * (z * z) * z - y ≠ 0 → Q (enc3 1 1 (0 : Zp V.p))) ∧ (z ≠ 0 → x2 * (z * z) - x ≠ 0 → Q (enc3 ((y2 * (z * z) * z - y) * (y2 * (z * z) * z - y) - (x2 * (z * z) - x) * (x2 * (z * z) - x) * (x2 * (z * z) - x) - 2 * (x * (x2 * (z * z) - x) * (x2 * (z * z) - x)))
      ((y2 * (z * z) * z - y) * (x * (x2 * (z * z) - x) * (x2 * (z * z) - x) - ((y2 * (z * z) * z - y) * (y2 * (z * z) * z - y) - (x2 * (z * z) - x) * (x2 * (z * z) - x) * (x2 * (z * z) - x) - 2 * (x * (x2 * (z * z) - x) * (x2 * (z * z) - x)))) - y * ((x2 * (z * z) - x) * (x2 * (z * z) - x) * (x2 * (z * z) - x))) (z * (x2 * (z * z) - x))))
theorem zp_one_v {p : Nat} [hp : Prm p] : (1 : Zp p).v = 1 := by
  show ((1 : Nat) : Int) % p = 1
  have := hp.pr.1
  exact Int.emod_eq_of_lt (by decide) (by omega)
theorem sc__law_beside : FnScope ["p", "a", "place", "one", "square", "left", "x", "y", "z", "far", "rise", "cube", "side"] ["p", "a", "place", "one"] (defScope (top 82)) := ⟨rfl, rfl, rfl, by decide +kernel, rfl, by decide +kernel, by decide +kernel⟩
theorem ok__law_beside (A : Kt K mg base) : FnAt P w K mg base 2 "_law_beside" ["p", "a", "place", "one"] sp__law_beside := by
  obtain ⟨fd, F⟩ := A.fn 59 (d := dd "_law_beside" 82)
  refine fn_mk (A.glo 59) F sc__law_beside (by decide) (fun _ _ _ _ _ _ us hl => match us, hl with | [_, _, _, _], _ => rfl) ?_ ?_
  · intro ds Q h
    obtain ⟨V, x, y, z, x2, y2, rfl, h1, h2, h3, h4⟩ := h
    rfl
  · intro E cdv A' outer s H Ex ds Qd hr h
    obtain ⟨V, x, y, z, x2, y2, rfl, h1, h2, h3, h4⟩ := h
    refine ⟨_, (pssc_cons (psc_asg (pec_var (i := 2)) (pgc_tup rfl (pgsc_cons (pgc_name (i := 6) sc__law_beside.nd) (pgsc_cons (pgc_name (i := 7) sc__law_beside.nd) (pgsc_cons (pgc_name (i := 8) sc__law_beside.nd) pgsc_nil)))))
      (pssc_cons (psc_if (pte_eq hr.units (pec_var (i := 8)) pec_int) (pssc_one (psc_ret (pec_tup (pac_cons (pec_item (k := 0) (pec_var (i := 3))) (pac_cons (pec_item (k := 1) (pec_var (i := 3))) (pac_cons pec_int pac_nil)))))) pssc_nil)
      (pssc_cons (psc_set (i := 4) sc__law_beside.nd (pec_mod (pec_intc (A.free 99) (pac_cons (pec_mul (pec_var (i := 8)) (pec_var (i := 8))) pac_nil)) (pec_var (i := 0))))
      (pssc_cons (psc_par (i := 9) (j := 10) rfl sc__law_beside.nd (pac_cons (pec_mod (pec_intc (A.free 99) (pac_cons (pec_sub (pec_mul (pec_item (k := 0) (pec_var (i := 3))) (pec_var (i := 4))) (pec_var (i := 6))) pac_nil)) (pec_var (i := 0))) (pac_cons (pec_mod (pec_intc (A.free 99) (pac_cons (pec_sub (pec_mul (pec_mul (pec_item (k := 1) (pec_var (i := 3))) (pec_var (i := 4))) (pec_var (i := 8))) (pec_var (i := 7))) pac_nil)) (pec_var (i := 0))) pac_nil)))
      (pssc_cons (psc_if (pte_eq hr.units (pec_var (i := 9)) pec_int) (pssc_one (psc_ret (pec_ifExp (pte_eq hr.units (pec_var (i := 10)) pec_int) (pec_call (ok__law_twice A) (hr.mono (by decide)) (pac_cons (pec_var (i := 0)) (pac_cons (pec_var (i := 1)) (pac_cons (pec_var (i := 2)) pac_nil)))) (pec_tup (pac_cons pec_int (pac_cons pec_int (pac_cons pec_int pac_nil))))))) pssc_nil)
      (pssc_cons (psc_par (i := 11) (j := 12) rfl sc__law_beside.nd (pac_cons (pec_mod (pec_intc (A.free 99) (pac_cons (pec_mul (pec_mul (pec_var (i := 9)) (pec_var (i := 9))) (pec_var (i := 9))) pac_nil)) (pec_var (i := 0))) (pac_cons (pec_mod (pec_intc (A.free 99) (pac_cons (pec_mul (pec_mul (pec_var (i := 6)) (pec_var (i := 9))) (pec_var (i := 9))) pac_nil)) (pec_var (i := 0))) pac_nil)))
      (pssc_cons (psc_set (i := 5) sc__law_beside.nd (pec_mod (pec_intc (A.free 99) (pac_cons (pec_sub (pec_sub (pec_mul (pec_var (i := 10)) (pec_var (i := 10))) (pec_var (i := 11))) (pec_mul pec_int (pec_var (i := 12)))) pac_nil)) (pec_var (i := 0))))
      (pssc_one (psc_ret (pec_tup (pac_cons (pec_var (i := 5)) (pac_cons (pec_mod (pec_intc (A.free 99) (pac_cons (pec_sub (pec_mul (pec_var (i := 10)) (pec_sub (pec_var (i := 12)) (pec_var (i := 5)))) (pec_mul (pec_var (i := 7)) (pec_var (i := 11)))) pac_nil)) (pec_var (i := 0))) (pac_cons (pec_mod (pec_intc (A.free 99) (pac_cons (pec_mul (pec_var (i := 8)) (pec_var (i := 9))) pac_nil)) (pec_var (i := 0))) pac_nil))))))))))))), ?_⟩
    have e0 : (0 : Zp V.p).v = 0 := zp_zero_v
    have e1 : (1 : Zp V.p).v = 1 := zp_one_v
    refine ⟨rfl, fun hb => ?_, fun hb => ?_⟩
    · have hz : z = 0 := zp_v_zero.mp (of_decide_eq_true hb)
      have h1 := h1 hz
      unfold enc3 at h1
      rw [e1] at h1
      exact ⟨rfl, h1⟩
    · have hz : z ≠ 0 := fun q => (of_decide_eq_false hb) (zp_v_zero.mpr q)
      have ef : fi V.p (x2.v * ((z.v * z.v) % V.p) - x.v) = x2 * (z * z) - x := by simp only [fi_sub', fi_mul', fi_mod, fi_val]
      have er : fi V.p (y2.v * ((z.v * z.v) % V.p) * z.v - y.v) = y2 * (z * z) * z - y := by simp only [fi_sub', fi_mul', fi_mod, fi_val]
      refine ⟨cmW, ppos V.p, cmW, ppos V.p, cmW, cmW, ppos V.p, fun hb2 => ?_, fun hb2 => ?_⟩
      · have hf : x2 * (z * z) - x = 0 := by rw [← ef]; exact mod_zero.mp (of_decide_eq_true hb2)
        refine ⟨fun hb3 => ⟨V, x, y, z, rfl, h2 hz hf ?_⟩, fun hb3 => ⟨rfl, ?_⟩⟩
        · rw [← er]; exact mod_zero.mp (of_decide_eq_true hb3)
        · have h3 := h3 hz hf (fun q => (of_decide_eq_false hb3) (mod_zero.mpr (by rw [er]; exact q)))
          unfold enc3 at h3
          rw [e0, e1] at h3
          exact h3
      · have hf : x2 * (z * z) - x ≠ 0 := fun q => (of_decide_eq_false hb2) (mod_zero.mpr (by rw [ef]; exact q))
        refine ⟨cmW, cmW, ppos V.p, cmW, cmW, ppos V.p, cmW, cmW, ppos V.p, cmW, cmW, ppos V.p, cmW, ppos V.p, rfl, ?_⟩
        refine to3 (h4 hz hf) ?_ ?_ ?_ <;> simp only [fi_add', fi_sub', fi_mul', fi_mod, fi_val, fi2]
end
end K75
set_option Elab.async false
set_option linter.all false
set_option maxRecDepth 100000
set_option maxHeartbeats 1000000
namespace K75
open PySem PySem.Spec PyProof.Rows L2 Cc Ec
section
variable {P : Program} {w : World} {K : PySem.W.Frag} {mg : Str → Option Value} {base : Heap}
theorem bits_lt (k : Nat) : k < 2 ^ (Builtin.Int.intBits (k : Nat)) := by
  unfold Builtin.Int.intBits
  by_cases h : k = 0
  · subst h; simp
  · simp [h]
    exact Nat.lt_log2_self
theorem enc3_110 {p : Nat} [hp : Prm p] : (D.tup [.int 1, .int 1, .int 0]) = enc3 (1 : Zp p) 1 0 := by
  unfold enc3
  rw [zp_one_v, zp_zero_v]
theorem half_pow (k j : Nat) : k / 2 ^ j = 2 * (k / 2 ^ (j + 1)) + k / 2 ^ j % 2 := by
  rw [Nat.pow_succ, ← Nat.div_div_eq_div_mul]
  omega
/-! _law_times: slots 0 cubic, 1 spot, 2 often, 3 turn, 4 back, 5 p, 6 a, 7 b, 8 place, 9 size -/
def sp__law_times : Spd := fun ds Q => ∃ (V : Cv) (X : G V.C) (k : Nat), ds = [encC V, encP X.1, .int k] ∧ k < 2 ^ 200 ∧ Q (encP (nm k X).1)
theorem sc__law_times : FnScope ["cubic", "spot", "often", "turn", "back", "p", "a", "b", "place", "size"] ["cubic", "spot", "often"] (defScope (top 83)) := ⟨rfl, rfl, rfl, by decide +kernel, rfl, by decide +kernel, by decide +kernel⟩
theorem ok__law_times (A : Kt K mg base) : FnAt P w K mg base 3 "_law_times" ["cubic", "spot", "often"] sp__law_times := by
  obtain ⟨fd, F⟩ := A.fn 60 (d := dd "_law_times" 83)
  refine fn_mk (A.glo 60) F sc__law_times (by decide) (fun _ _ _ _ _ _ us hl => match us, hl with | [_, _, _], _ => rfl) ?_ ?_
  · intro ds Q h
    obtain ⟨V, X, k, rfl, hk, hq⟩ := h
    rfl
  · intro E cdv A' outer s H Ex ds Qd hr h
    obtain ⟨V, X, k, rfl, hk, hq⟩ := h
    refine ⟨_, (pssc_cons (psc_asg (pec_var (i := 0)) (pgc_tup rfl (pgsc_cons (pgc_name (i := 5) sc__law_times.nd) (pgsc_cons (pgc_name (i := 6) sc__law_times.nd) (pgsc_cons (pgc_name (i := 7) sc__law_times.nd) pgsc_nil)))))
      (pssc_cons (psc_par (i := 8) (j := 9) rfl sc__law_times.nd (pac_cons (pec_tup (pac_cons pec_int (pac_cons pec_int (pac_cons pec_int pac_nil)))) (pac_cons (pec_bits (pec_intc (A.free 99) (pac_cons (pec_var (i := 2)) pac_nil))) pac_nil)))
      (pssc_cons (psc_if (pte_eq hr.units (pec_var (i := 1)) (pec_tup pac_nil)) (pssc_one (psc_ret (pec_tup pac_nil))) pssc_nil)
      (pssc_cons (psc_forR1 .never rfl (A.free 103) (pac_cons (pec_var (i := 9)) pac_nil) (pgc_name (i := 3) sc__law_times.nd) (pssc_cons (psc_set (i := 8) sc__law_times.nd (pec_call (ok__law_twice A) (hr.mono (by decide)) (pac_cons (pec_var (i := 5)) (pac_cons (pec_var (i := 6)) (pac_cons (pec_var (i := 8)) pac_nil)))))
      (pssc_one (psc_if (pte_eq hr.units (pec_mod (pec_intc (A.free 99) (pac_cons (pec_shr (pec_var (i := 2)) (pec_sub (pec_sub (pec_var (i := 9)) pec_int) (pec_var (i := 3)))) pac_nil)) pec_int) pec_int) (pssc_one (psc_set (i := 8) sc__law_times.nd (pec_call (ok__law_beside A) (hr.mono (by decide)) (pac_cons (pec_var (i := 5)) (pac_cons (pec_var (i := 6)) (pac_cons (pec_var (i := 8)) (pac_cons (pec_var (i := 1)) pac_nil))))))) pssc_nil))))
      (pssc_cons (psc_if (pte_eq hr.units (pec_item (k := 2) (pec_var (i := 8))) pec_int) (pssc_one (psc_ret (pec_tup pac_nil))) pssc_nil)
      (pssc_cons (psc_set (i := 4) sc__law_times.nd (pec_call (ok__law_back A) (hr.mono (by decide)) (pac_cons (pec_var (i := 5)) (pac_cons (pec_item (k := 2) (pec_var (i := 8))) pac_nil))))
      (pssc_one (psc_ret (pec_tup (pac_cons (pec_mod (pec_intc (A.free 99) (pac_cons (pec_mul (pec_mul (pec_item (k := 0) (pec_var (i := 8))) (pec_var (i := 4))) (pec_var (i := 4))) pac_nil)) (pec_var (i := 5))) (pac_cons (pec_mod (pec_intc (A.free 99) (pac_cons (pec_mul (pec_mul (pec_mul (pec_item (k := 1) (pec_var (i := 8))) (pec_var (i := 4))) (pec_var (i := 4))) (pec_var (i := 4))) pac_nil)) (pec_var (i := 5))) pac_nil))))))))))), ?_⟩
    have hbits := bits_lt k
    have hle : Builtin.Int.intBits ((k : Nat) : Int) ≤ 200 := PyProof.Rows.intBits_le (by simpa using hk)
    generalize hS : Builtin.Int.intBits ((k : Nat) : Int) = S at hbits hle
    refine ⟨rfl, rfl, ?_⟩
    generalize hX : X.1 = PX
    match PX, hX with
    | none, hX =>
      have e : X = 0 := G.ext hX
      rw [e, nm_z] at hq
      exact ⟨rfl, [], [], rfl, rfl, fun _ => ⟨rfl, hq⟩, (fun h => nomatch h)⟩
    | some (x, y), hX =>
      refine ⟨rfl, [x.v, y.v], [], rfl, rfl, fun h => absurd h (by simp), fun _ => ?_⟩
      have win : inW ((Builtin.Int.intBits ((k : Nat) : Int) : Nat) : Int) := by rw [hS]; exact ⟨by omega, by omega⟩
      have nat : (((Builtin.Int.intBits ((k : Nat) : Int) : Nat) : Int)).toNat = S := by rw [hS]; rfl
      refine ⟨win, fun i ρ => ∃ (s3 s4 : Cc.Sl) (a b c : Zp V.p), ρ = [.d (encC V), .d (encP (some (x, y))), .d (.int k), s3, s4, .d (.int V.p), .d (.int V.C.a.v), .d (.int V.C.b.v), .d (enc3 a b c), .d (.int (Builtin.Int.intBits ((k : Nat) : Int) : Nat))] ∧ Jr a b c (nm (k / 2 ^ (S - i)) X).1, ?_, ?_, ?_⟩
      · refine ⟨.no, .no, 1, 1, 0, ?_, ?_⟩
        · rw [← enc3_110]; rfl
        · rw [Nat.sub_zero, Nat.div_eq_of_lt hbits]
          exact .inl ⟨rfl, rfl⟩
      · rintro i ρ hi ⟨s3, s4, a, b, c, rfl, hj⟩
        have hi : i < S := by rw [← nat]; exact hi
        have ej : (((Builtin.Int.intBits ((k : Nat) : Int) : Nat) : Int) - 1 - ((0 : Int) + (i : Nat))) = ((S - 1 - i : Nat) : Int) := by rw [hS]; omega
        have hp := half_pow k (S - 1 - i)
        have e1 : S - 1 - i + 1 = S - i := by omega
        have e2 : S - (i + 1) = S - 1 - i := by omega
        rw [e1] at hp
        have t := jr_twice hj
        have ebit : ((k : Nat) : Int) / 2 ^ (((Builtin.Int.intBits ((k : Nat) : Int) : Nat) : Int) - 1 - ((0 : Int) + (i : Nat))).toNat % 2 = ((k / 2 ^ (S - 1 - i) % 2 : Nat) : Int) := by
          rw [ej, Int.toNat_natCast]
          have : ((2 : Int) ^ (S - 1 - i)) = ((2 ^ (S - 1 - i) : Nat) : Int) := by rw [Int.natCast_pow]; rfl
          rw [this]
          omega
        refine ⟨V, a, b, c, rfl, ?_, (show (0 : Int) < 2 by decide), fun hb => ?_, fun hb => ?_⟩
        · show (0 : Int) ≤ ((Builtin.Int.intBits ((k : Nat) : Int) : Nat) : Int) - 1 - ((0 : Int) + (i : Nat))
          rw [ej]; omega
        · have hb : ((k : Nat) : Int) / 2 ^ (((Builtin.Int.intBits ((k : Nat) : Int) : Nat) : Int) - 1 - ((0 : Int) + (i : Nat))).toNat % 2 = 1 := of_decide_eq_true hb
          rw [ebit] at hb
          have h1 : k / 2 ^ (S - 1 - i) % 2 = 1 := by omega
          rw [h1] at hp
          have eP : nm (k / 2 ^ (S - (i + 1))) X = (nm (k / 2 ^ (S - i)) X + nm (k / 2 ^ (S - i)) X) + X := by
            rw [e2, hp, nm_succ, nm_mul, nm_two]
          refine ⟨V, _, _, _, x, y, rfl, fun hz => ?_, fun hz hf hr => ?_, fun hz hf hr => ?_, fun hz hf => ?_⟩
          · refine ⟨.d (.int (0 + (i : Nat))), s4, x, y, 1, rfl, ?_⟩
            rw [eP]
            rcases t with ⟨_, t⟩ | ⟨t, _⟩
            · have : nm (k / 2 ^ (S - i)) X + nm (k / 2 ^ (S - i)) X = 0 := G.ext t
              rw [this, gzero_add]
              exact .inr ⟨fun h => zp_one_ne h.symm, x, y, hX, by rw [Lean.Grind.Semiring.mul_one, Lean.Grind.Semiring.mul_one], by rw [Lean.Grind.Semiring.mul_one, Lean.Grind.Semiring.mul_one, Lean.Grind.Semiring.mul_one]⟩
            · exact absurd hz t
          · refine ⟨.d (.int (0 + (i : Nat))), s4, _, _, _, rfl, ?_⟩
            rw [eP]
            have e := jr_same t hX hz hf hr
            rw [e]
            exact jr_twice t
          · refine ⟨.d (.int (0 + (i : Nat))), s4, 1, 1, 0, rfl, ?_⟩
            rw [eP, jr_opp t hX hz hf hr]
            exact .inl ⟨rfl, rfl⟩
          · refine ⟨.d (.int (0 + (i : Nat))), s4, _, _, _, rfl, ?_⟩
            rw [eP]
            exact jr_beside t hX hz hf
        · have hb : ¬ ((k : Nat) : Int) / 2 ^ (((Builtin.Int.intBits ((k : Nat) : Int) : Nat) : Int) - 1 - ((0 : Int) + (i : Nat))).toNat % 2 = 1 := of_decide_eq_false hb
          rw [ebit] at hb
          have h1 : k / 2 ^ (S - 1 - i) % 2 = 0 := by omega
          rw [h1, Nat.add_zero] at hp
          refine ⟨.d (.int (0 + (i : Nat))), s4, _, _, _, rfl, ?_⟩
          have eP : nm (k / 2 ^ (S - (i + 1))) X = nm (k / 2 ^ (S - i)) X + nm (k / 2 ^ (S - i)) X := by
            rw [e2, hp, nm_mul, nm_two]
          rw [eP]
          exact t
      · rintro ρ ⟨s3, s4, a, b, c, rfl, hj⟩
        have nat' : (((Builtin.Int.intBits ((k : Nat) : Int) : Nat) : Int)).toNat = S := nat
        rw [nat', Nat.sub_self, Nat.pow_zero, Nat.div_one] at hj
        rcases hj with ⟨hz, hj⟩ | ⟨hz, x', y', hj, e1, e2⟩
        · refine ⟨fun _ => ?_, fun hb => absurd (zp_v_zero.mpr hz) (of_decide_eq_false hb)⟩
          rw [hj] at hq
          exact ⟨rfl, hq⟩
        · refine ⟨fun hb => absurd (zp_v_zero.mp (of_decide_eq_true hb)) hz, fun _ => ?_⟩
          have ev : fi V.p c.v = c := fi_val c
          refine ⟨V.p, V.hp, V.hb, c.v, rfl, by rw [ev]; exact hz, cmW, cmW, ppos V.p, cmW, cmW, cmW, ppos V.p, rfl, ?_⟩
          refine toP hq hj ?_ ?_ <;> simp only [fi_mul', fi_val] <;> grind
/-! _law_is_flat: slots 0 cubic, 1 p, 2 a, 3 b -/
def sp__law_is_flat : Spd := fun ds Q => ∃ (p : Nat) (hp : Prm p) (hb : Bd p) (a b : Zp p), ds = [.tup [.int p, .int a.v, .int b.v]] ∧ Q (.bl (decide (4 * a * a * a + 27 * b * b = 0)))
theorem sc__law_is_flat : FnScope ["cubic", "p", "a", "b"] ["cubic"] (defScope (top 84)) := ⟨rfl, rfl, rfl, by decide +kernel, rfl, by decide +kernel, by decide +kernel⟩
theorem ok__law_is_flat (A : Kt K mg base) : FnAt P w K mg base 1 "_law_is_flat" ["cubic"] sp__law_is_flat := by
  obtain ⟨fd, F⟩ := A.fn 61 (d := dd "_law_is_flat" 84)
  refine fn_mk (A.glo 61) F sc__law_is_flat (by decide) (fun _ _ _ _ _ _ us hl => match us, hl with | [_], _ => rfl) ?_ ?_
  · intro ds Q h
    obtain ⟨p, hp, hb, a, b, rfl, hq⟩ := h
    rfl
  · intro E cdv A' outer s H Ex ds Qd hr h
    obtain ⟨p, hp, hb, a, b, rfl, hq⟩ := h
    refine ⟨_, (pssc_cons (psc_asg (pec_var (i := 0)) (pgc_tup rfl (pgsc_cons (pgc_name (i := 1) sc__law_is_flat.nd) (pgsc_cons (pgc_name (i := 2) sc__law_is_flat.nd) (pgsc_cons (pgc_name (i := 3) sc__law_is_flat.nd) pgsc_nil)))))
      (pssc_one (psc_ret (pec_eq hr.units (pec_mod (pec_intc (A.free 99) (pac_cons (pec_addI (pec_mul (pec_mul (pec_mul pec_int (pec_var (i := 2))) (pec_var (i := 2))) (pec_var (i := 2))) (pec_mul (pec_mul pec_int (pec_var (i := 3))) (pec_var (i := 3)))) pac_nil)) (pec_var (i := 1))) pec_int)))), ?_⟩
    refine ⟨rfl, cmW, cmW, cmW, cmW, cmW, ppos p, ?_⟩
    have e : decide ((4 * a.v * a.v * a.v + 27 * b.v * b.v) % (p : Int) = 0) = decide (4 * a * a * a + 27 * b * b = 0) := by
      rw [decide_eq_decide, mod_zero]
      simp only [fi_add', fi_mul', fi_val, fi4, fi27]
    show Qd (.bl (decide ((4 * a.v * a.v * a.v + 27 * b.v * b.v) % (p : Int) = 0)))
    rw [e]; exact hq
/-! _law_through: slots 0 p, 1 a, 2 spot, 3 x, 4 y -/
def sp__law_through : Spd := fun ds Q => ∃ (p : Nat) (hp : Prm p) (hb : Bd p) (a x y : Zp p), ds = [.int p, .int a.v, .tup [.int x.v, .int y.v]] ∧ Q (.tup [.int p, .int a.v, .int (y * y - x * x * x - a * x).v])
theorem sc__law_through : FnScope ["p", "a", "spot", "x", "y"] ["p", "a", "spot"] (defScope (top 85)) := ⟨rfl, rfl, rfl, by decide +kernel, rfl, by decide +kernel, by decide +kernel⟩
theorem ok__law_through (A : Kt K mg base) : FnAt P w K mg base 1 "_law_through" ["p", "a", "spot"] sp__law_through := by
  obtain ⟨fd, F⟩ := A.fn 62 (d := dd "_law_through" 85)
  refine fn_mk (A.glo 62) F sc__law_through (by decide) (fun _ _ _ _ _ _ us hl => match us, hl with | [_, _, _], _ => rfl) ?_ ?_
  · intro ds Q h
    obtain ⟨p, hp, hb, a, x, y, rfl, hq⟩ := h
    rfl
  · intro E cdv A' outer s H Ex ds Qd hr h
    obtain ⟨p, hp, hb, a, x, y, rfl, hq⟩ := h
    refine ⟨_, (pssc_cons (psc_asg (pec_var (i := 2)) (pgc_tup rfl (pgsc_cons (pgc_name (i := 3) sc__law_through.nd) (pgsc_cons (pgc_name (i := 4) sc__law_through.nd) pgsc_nil))))
      (pssc_one (psc_ret (pec_tup (pac_cons (pec_var (i := 0)) (pac_cons (pec_var (i := 1)) (pac_cons (pec_mod (pec_intc (A.free 99) (pac_cons (pec_sub (pec_sub (pec_mul (pec_var (i := 4)) (pec_var (i := 4))) (pec_mul (pec_mul (pec_var (i := 3)) (pec_var (i := 3))) (pec_var (i := 3)))) (pec_mul (pec_var (i := 1)) (pec_var (i := 3)))) pac_nil)) (pec_var (i := 0))) pac_nil))))))), ?_⟩
    refine ⟨rfl, cmW, cmW, cmW, cmW, ppos p, rfl, ?_⟩
    have e : ((y.v * y.v - x.v * x.v * x.v - a.v * x.v) % (p : Int)) = (y * y - x * x * x - a * x).v := by
      rw [← fi_v]
      simp only [fi_sub', fi_mul', fi_val]
    show Qd (.tup [.int p, .int a.v, .int ((y.v * y.v - x.v * x.v * x.v - a.v * x.v) % (p : Int))])
    rw [e]; exact hq
end
end K75
set_option Elab.async false
set_option linter.all false
set_option maxRecDepth 100000
set_option maxHeartbeats 1000000
namespace K75
open PySem PySem.Spec PyProof.Rows L2 Cc Ec
section
variable {P : Program} {w : World} {K : PySem.W.Frag} {mg : Str → Option Value} {base : Heap}
/-! _law_stretched: slots 0 cubic, 1 u, 2 p, 3 a, 4 b -/
def sp__law_stretched : Spd := fun ds Q => ∃ (p : Nat) (hp : Prm p) (hb : Bd p) (a b u : Zp p), ds = [.tup [.int p, .int a.v, .int b.v], .int u.v] ∧ Q (.tup [.int p, .int (a * u * u * u * u).v, .int (b * u * u * u * u * u * u).v])
theorem sc__law_stretched : FnScope ["cubic", "u", "p", "a", "b"] ["cubic", "u"] (defScope (top 96)) := ⟨rfl, rfl, rfl, by decide +kernel, rfl, by decide +kernel, by decide +kernel⟩
theorem ok__law_stretched (A : Kt K mg base) : FnAt P w K mg base 1 "_law_stretched" ["cubic", "u"] sp__law_stretched := by
  obtain ⟨fd, F⟩ := A.fn 73 (d := dd "_law_stretched" 96)
  refine fn_mk (A.glo 73) F sc__law_stretched (by decide) (fun _ _ _ _ _ _ us hl => match us, hl with | [_, _], _ => rfl) ?_ ?_
  · intro ds Q h
    obtain ⟨p, hp, hb, a, b, u, rfl, hq⟩ := h
    rfl
  · intro E cdv A' outer s H Ex ds Qd hr h
    obtain ⟨p, hp, hb, a, b, u, rfl, hq⟩ := h
    refine ⟨_, (pssc_cons (psc_asg (pec_var (i := 0)) (pgc_tup rfl (pgsc_cons (pgc_name (i := 2) sc__law_stretched.nd) (pgsc_cons (pgc_name (i := 3) sc__law_stretched.nd) (pgsc_cons (pgc_name (i := 4) sc__law_stretched.nd) pgsc_nil)))))
      (pssc_one (psc_ret (pec_tup (pac_cons (pec_var (i := 2)) (pac_cons (pec_mod (pec_intc (A.free 99) (pac_cons (pec_mul (pec_mul (pec_mul (pec_mul (pec_var (i := 3)) (pec_var (i := 1))) (pec_var (i := 1))) (pec_var (i := 1))) (pec_var (i := 1))) pac_nil)) (pec_var (i := 2))) (pac_cons (pec_mod (pec_intc (A.free 99) (pac_cons (pec_mul (pec_mul (pec_mul (pec_mul (pec_mul (pec_mul (pec_var (i := 4)) (pec_var (i := 1))) (pec_var (i := 1))) (pec_var (i := 1))) (pec_var (i := 1))) (pec_var (i := 1))) (pec_var (i := 1))) pac_nil)) (pec_var (i := 2))) pac_nil))))))), ?_⟩
    refine ⟨rfl, cmW, cmW, cmW, cmW, ppos p, cmW, cmW, cmW, cmW, cmW, cmW, ppos p, rfl, ?_⟩
    have e1 : (a.v * u.v * u.v * u.v * u.v) % (p : Int) = (a * u * u * u * u).v := by
      rw [← fi_v]; simp only [fi_mul', fi_val]
    have e2 : (b.v * u.v * u.v * u.v * u.v * u.v * u.v) % (p : Int) = (b * u * u * u * u * u * u).v := by
      rw [← fi_v]; simp only [fi_mul', fi_val]
    show Qd (.tup [.int p, .int ((a.v * u.v * u.v * u.v * u.v) % (p : Int)), .int ((b.v * u.v * u.v * u.v * u.v * u.v * u.v) % (p : Int))])
    rw [e1, e2]; exact hq
/-! _law_moved: slots 0 cubic, 1 u, 2 spot -/
def sp__law_moved : Spd := fun ds Q => ∃ (p : Nat) (hp : Prm p) (hb : Bd p) (a b u x y : Zp p), ds = [.tup [.int p, .int a.v, .int b.v], .int u.v, .tup [.int x.v, .int y.v]] ∧ Q (encP (some (x * u * u, y * u * u * u)))
theorem sc__law_moved : FnScope ["cubic", "u", "spot"] ["cubic", "u", "spot"] (defScope (top 97)) := ⟨rfl, rfl, rfl, by decide +kernel, rfl, by decide +kernel, by decide +kernel⟩
theorem ok__law_moved (A : Kt K mg base) : FnAt P w K mg base 1 "_law_moved" ["cubic", "u", "spot"] sp__law_moved := by
  obtain ⟨fd, F⟩ := A.fn 74 (d := dd "_law_moved" 97)
  refine fn_mk (A.glo 74) F sc__law_moved (by decide) (fun _ _ _ _ _ _ us hl => match us, hl with | [_, _, _], _ => rfl) ?_ ?_
  · intro ds Q h
    obtain ⟨p, hp, hb, a, b, u, x, y, rfl, hq⟩ := h
    rfl
  · intro E cdv A' outer s H Ex ds Qd hr h
    obtain ⟨p, hp, hb, a, b, u, x, y, rfl, hq⟩ := h
    refine ⟨_, (pssc_one (psc_ret (pec_ifExp (pte_eq hr.units (pec_var (i := 2)) (pec_tup pac_nil)) (pec_tup pac_nil) (pec_tup (pac_cons (pec_mod (pec_intc (A.free 99) (pac_cons (pec_mul (pec_mul (pec_item (k := 0) (pec_var (i := 2))) (pec_var (i := 1))) (pec_var (i := 1))) pac_nil)) (pec_item (k := 0) (pec_var (i := 0)))) (pac_cons (pec_mod (pec_intc (A.free 99) (pac_cons (pec_mul (pec_mul (pec_mul (pec_item (k := 1) (pec_var (i := 2))) (pec_var (i := 1))) (pec_var (i := 1))) (pec_var (i := 1))) pac_nil)) (pec_item (k := 0) (pec_var (i := 0)))) pac_nil)))))), ?_⟩
    refine ⟨rfl, [x.v, y.v], [], rfl, rfl, fun h => absurd h (by simp), fun _ => ⟨cmW, cmW, ppos p, cmW, cmW, cmW, ppos p, rfl, toP hq rfl ?_ ?_⟩⟩ <;> simp only [fi_mul', fi_val]
/-! _law_signs: slots  -/
def signs : Str := ⟨#[32, 33, 34, 35, 36, 38, 39, 40, 41, 42, 43, 44, 45, 46, 47, 48, 49, 50, 51, 52, 53, 54, 55, 56, 57, 58, 59, 60, 61, 62, 63, 64, 65, 66, 67, 68, 69, 70, 71, 72, 73, 74, 75, 76, 77, 78, 79, 80, 81, 82, 83, 84, 85, 86, 87, 88, 89, 90, 91, 92, 93, 94, 95, 96, 97, 98, 99, 100, 101, 102, 103, 104, 105, 106, 107, 108, 109, 110, 111, 112, 113, 114, 115, 116, 117, 118, 119, 120, 121, 122, 123, 124, 125, 126]⟩
def sp__law_signs : Spd := fun ds Q => ds = [] ∧ Q (.str signs)
theorem sc__law_signs : FnScope [] [] (defScope (top 100)) := ⟨rfl, rfl, rfl, by decide +kernel, rfl, by decide +kernel, by decide +kernel⟩
theorem ok__law_signs (A : Kt K mg base) : FnAt P w K mg base 1 "_law_signs" [] sp__law_signs := by
  obtain ⟨fd, F⟩ := A.fn 77 (d := dd "_law_signs" 100)
  refine fn_mk (A.glo 77) F sc__law_signs (by decide) (fun _ _ _ _ _ _ us hl => match us, hl with | [], _ => rfl) ?_ ?_
  · intro ds Q h
    obtain ⟨rfl, hq⟩ := h
    rfl
  · intro E cdv A' outer s H Ex ds Qd hr h
    obtain ⟨rfl, hq⟩ := h
    refine ⟨_, (pssc_one (psc_ret pec_str)), ?_⟩
    exact hq
/-! _law_spot_text: slots 0 spot -/
theorem join2 (z a b : Str) : Txt.join z [a, b] = a ++ z ++ b := by
  show Builtin.Str.glued z [a, b] = _
  rw [PySem.StrLaws.glued_eq_join]; rfl
def sp__law_spot_text : Spd := fun ds Q => ∃ (p : Nat) (hp : Prm p) (hb : Bd p) (X : Pt (Zp p)), ds = [encP X] ∧ Q (.str (ptx X))
theorem sc__law_spot_text : FnScope ["spot"] ["spot"] (defScope (top 102)) := ⟨rfl, rfl, rfl, by decide +kernel, rfl, by decide +kernel, by decide +kernel⟩
theorem ok__law_spot_text (A : Kt K mg base) : FnAt P w K mg base 1 "_law_spot_text" ["spot"] sp__law_spot_text := by
  obtain ⟨fd, F⟩ := A.fn 79 (d := dd "_law_spot_text" 102)
  refine fn_mk (A.glo 79) F sc__law_spot_text (by decide) (fun _ _ _ _ _ _ us hl => match us, hl with | [_], _ => rfl) ?_ ?_
  · intro ds Q h
    obtain ⟨p, hp, hb, X, rfl, hq⟩ := h
    rfl
  · intro E cdv A' outer s H Ex ds Qd hr h
    obtain ⟨p, hp, hb, X, rfl, hq⟩ := h
    refine ⟨_, (pssc_one (psc_ret (pec_ifExp (pte_eq hr.units (pec_var (i := 0)) (pec_tup pac_nil)) pec_str (pec_addS (pec_addS (pec_strc (A.free 105) (pac_cons (pec_item (k := 0) (pec_var (i := 0))) pac_nil)) pec_str) (pec_strc (A.free 105) (pac_cons (pec_item (k := 1) (pec_var (i := 0))) pac_nil)))))), ?_⟩
    match X with
    | none => exact ⟨rfl, [], [], rfl, rfl, fun _ => hq, (fun h => nomatch h)⟩
    | some (x, y) =>
      have h := hb.h
      have h1 := x.lo
      have h2 := x.hi
      have h3 := y.lo
      have h4 := y.hi
      have l1 := len_int x.lo (by omega)
      have l2 := len_int y.lo (by omega)
      have e : (Str.ofString ",").length = 1 := by decide
      refine ⟨rfl, [x.v, y.v], [], rfl, rfl, fun h => absurd h (by simp), fun _ => ⟨log_small h1 (by omega), ?_, log_small h3 (by omega), ?_, ?_⟩⟩
      · rw [sizeLine_eq]; omega
      · rw [sizeLine_eq, PySem.Str.length_append]; omega
      · have : ptx (some (x, y)) = Str.ofString (toString x.v) ++ Str.ofString "," ++ Str.ofString (toString y.v) := join2 _ _ _
        rw [this] at hq
        exact hq
def valF (l : List Nat) : Nat := l.foldl (fun a c => 257 * a + c) 0
theorem valF_snoc (l : List Nat) (c : Nat) : valF (l ++ [c]) = 257 * valF l + c := by
  unfold valF; rw [List.foldl_append]; rfl
theorem foldl_valF (l : List Nat) (a : Nat) : l.foldl (fun a c => 257 * a + c) a = a * 257 ^ l.length + valF l := by
  induction l generalizing a with
  | nil => simp [valF]
  | cons c r ih =>
    have h1 := ih (257 * a + c)
    have h2 := ih (257 * 0 + c)
    have e : valF (c :: r) = (257 * 0 + c) * 257 ^ r.length + valF r := h2
    show r.foldl _ (257 * a + c) = _
    rw [h1, e, List.length_cons, Nat.pow_succ, Nat.add_mul, Nat.add_mul]
    have : a * (257 ^ r.length * 257) = 257 * a * 257 ^ r.length := by rw [Nat.mul_comm (257 ^ r.length), ← Nat.mul_assoc, Nat.mul_comm a]
    omega
theorem valF_cons (c : Nat) (r : List Nat) : valF (c :: r) = c * 257 ^ r.length + valF r := by
  have e := foldl_valF r (257 * 0 + c)
  have : valF (c :: r) = r.foldl (fun a c => 257 * a + c) (257 * 0 + c) := rfl
  rw [this, e, Nat.mul_zero, Nat.zero_add]
theorem grow_val {n : Nat} (l : List Nat) (a : Nat) : grow n (a % n) l % n = (l.foldl (fun a c => 257 * a + c) a) % n := by
  induction l generalizing a with
  | nil => exact Nat.mod_mod _ _
  | cons c r ih =>
    have h := ih (257 * (a % n) + c)
    show grow n ((257 * (a % n) + c) % n) r % n = (r.foldl _ (257 * a + c)) % n
    rw [h, foldl_valF, foldl_valF]
    have e : (257 * (a % n) + c) % n = (257 * a + c) % n := by rw [Nat.add_mod, Nat.mul_mod, Nat.mod_mod, ← Nat.mul_mod, ← Nat.add_mod]
    rw [Nat.add_mod, Nat.mul_mod, e, ← Nat.mul_mod, ← Nat.add_mod]
theorem grow_eq {n : Nat} (hn : 0 < n) (l : List Nat) : grow n 0 l = valF l % n := by
  have h := grow_val (n := n) l 0
  rw [Nat.zero_mod] at h
  rw [Nat.mod_eq_of_lt (grow_lt hn l 0 hn)] at h
  exact h
/-! _law_digest: slots 0 order, 1 words, 2 at, 3 found, 4 weight -/
def sp__law_digest : Spd := fun ds Q => ∃ (n : Nat) (t : Str), ds = [.int n, .str t] ∧ (0 < n ∧ n < 2 ^ 61 ∧ t.length ≤ 100000) ∧ Q (.int (grow n 0 t.cps.toList : Nat))
theorem sc__law_digest : FnScope ["order", "words", "at", "found", "weight"] ["order", "words"] (defScope (top 103)) := ⟨rfl, rfl, rfl, by decide +kernel, rfl, by decide +kernel, by decide +kernel⟩
theorem ok__law_digest (A : Kt K mg base) : FnAt P w K mg base 1 "_law_digest" ["order", "words"] sp__law_digest := by
  obtain ⟨fd, F⟩ := A.fn 80 (d := dd "_law_digest" 103)
  refine fn_mk (A.glo 80) F sc__law_digest (by decide) (fun _ _ _ _ _ _ us hl => match us, hl with | [_, _], _ => rfl) ?_ ?_
  · intro ds Q h
    obtain ⟨n, t, rfl, hn, hq⟩ := h
    rfl
  · intro E cdv A' outer s H Ex ds Qd hr h
    obtain ⟨n, t, rfl, hn, hq⟩ := h
    refine ⟨_, (pssc_cons (psc_asg (pec_tup (pac_cons pec_int (pac_cons pec_int pac_nil))) (pgc_tup rfl (pgsc_cons (pgc_name (i := 3) sc__law_digest.nd) (pgsc_cons (pgc_name (i := 4) sc__law_digest.nd) pgsc_nil))))
      (pssc_cons (psc_forR1 .never rfl (A.free 103) (pac_cons (pec_lenc (A.free 101) (pac_cons (pec_var (i := 1)) pac_nil)) pac_nil) (pgc_name (i := 2) sc__law_digest.nd) (pssc_cons (psc_addI (i := 3) sc__law_digest.nd (pec_mulC (pec_ordc (A.free 102) (pac_cons (pec_ix (pec_var (i := 1)) (pec_sub (pec_sub (pec_lenc (A.free 101) (pac_cons (pec_var (i := 1)) pac_nil)) pec_int) (pec_var (i := 2))) (fun _ _ => rfl)) pac_nil)) (pec_var (i := 4))))
      (pssc_one (psc_set (i := 4) sc__law_digest.nd (pec_mod (pec_intc (A.free 99) (pac_cons (pec_mulC (pec_var (i := 4)) pec_int) pac_nil)) (pec_var (i := 0)))))))
      (pssc_one (psc_ret (pec_mod (pec_intc (A.free 99) (pac_cons (pec_var (i := 3)) pac_nil)) (pec_var (i := 0))))))), ?_⟩
    obtain ⟨h0, h1, h2⟩ := hn
    have hl : t.length ≤ sizeLine := by rw [sizeLine_eq]; omega
    have hL : t.cps.toList.length = t.length := by rw [Array.length_toList]; rfl
    refine ⟨rfl, rfl, hl, ⟨by omega, by omega⟩, fun i ρ => ∃ (f w : Nat) (s2 : Cc.Sl), ρ = [.d (.int n), .d (.str t), s2, .d (.int f), .d (.int w)] ∧ i ≤ t.length ∧ f % n = valF (t.cps.toList.drop (t.length - i)) % n ∧ w % n = 257 ^ i % n ∧ (w < n ∨ w = 1), ⟨0, 1, .no, rfl, by omega, ?_, rfl, .inr rfl⟩, ?_, ?_⟩
    · rw [Nat.sub_zero, ← hL, List.drop_length]; rfl
    · rintro i ρ hi ⟨f, w, s2, rfl, hi2, hf, hw, hwn⟩
      have hi : i < t.length := by simpa using hi
      have ex : (((t.length : Nat) : Int) - 1 - ((0 : Int) + (i : Nat))) = ((t.length - 1 - i : Nat) : Int) := by omega
      have hk : t.length - 1 - i < t.cps.toList.length := by omega
      have hg : t.cps.toList[t.length - 1 - i]? = some t.cps.toList[t.length - 1 - i] := List.getElem?_eq_getElem hk
      generalize t.cps.toList[t.length - 1 - i] = c at hg
      have w64 : ((w : Nat) : Int) < 2 ^ 64 := by rcases hwn with h | h <;> omega
      have w65 : -(2 ^ 64) < ((w : Nat) : Int) := by omega
      refine ⟨hl, c, hl, ?_, rfl, .inr ⟨w65, w64⟩, .inl ⟨w65, w64⟩, by omega, ?_⟩
      · rw [← atI_nat hg, ← ex]
      refine ⟨f + c * w, (w * 257) % n, .d (.int (0 + (i : Nat))), ?_, by omega, ?_, ?_, .inl (Nat.mod_lt _ h0)⟩
      · show [_, _, _, Sl.d (.int (((f : Nat) : Int) + (c : Nat) * (w : Nat))), Sl.d (.int ((((w : Nat) : Int) * 257) % (n : Nat)))] = _
        rw [← Int.natCast_mul, ← Int.natCast_add]
        have : (((w : Nat) : Int) * 257) % (n : Nat) = (((w * 257) % n : Nat) : Int) := by
          rw [Int.natCast_emod, Int.natCast_mul]; rfl
        rw [this]
      · have ed : t.cps.toList.drop (t.length - (i + 1)) = c :: t.cps.toList.drop (t.length - i) := by
          have e1 : t.length - (i + 1) = t.length - 1 - i := by omega
          have e2 : t.length - i = t.length - 1 - i + 1 := by omega
          rw [e1, e2]
          have q := List.drop_eq_getElem_cons hk
          rw [List.getElem?_eq_getElem hk] at hg
          rw [q, Option.some.inj hg]
        rw [ed, valF_cons]
        have lenD : (t.cps.toList.drop (t.length - i)).length = i := by rw [List.length_drop]; omega
        rw [lenD, Nat.add_comm (c * 257 ^ i)]
        rw [Nat.add_mod, hf, Nat.mul_mod, hw, ← Nat.mul_mod, ← Nat.add_mod]
      · rw [Nat.mod_mod, Nat.mul_mod, hw, ← Nat.mul_mod, Nat.pow_succ]
    · rintro ρ ⟨f, w, s2, rfl, _, hf, _, _⟩
      have e : ((f : Nat) : Int) % (n : Nat) = ((grow n 0 t.cps.toList : Nat) : Int) := by
        have h3 : (((t.length : Nat) : Int)).toNat = t.length := rfl
        rw [h3, Nat.sub_self, List.drop_zero] at hf
        rw [grow_eq h0, ← hf]
        rw [Int.natCast_emod]
      refine ⟨by omega, ?_⟩
      show Qd (.int (((f : Nat) : Int) % (n : Nat)))
      rw [e]; exact hq
/-! _law_weight: slots 0 home, 1 head, 2 lock, 3 words -/
def sp__law_weight : Spd := fun ds Q => ∃ (h : Hm) (F O : G h.V.C) (t : Str), ds = [encH h, encP F.1, encP O.1, .str t] ∧ t.length ≤ 3000 ∧ Q (.int (wt h F O t : Nat))
theorem join3 (z a b c : Str) : Txt.join z [a, b, c] = a ++ z ++ b ++ z ++ c := by
  show Builtin.Str.glued z [a, b, c] = _
  rw [PySem.StrLaws.glued_eq_join]
  show a ++ z ++ (b ++ z ++ c) = _
  simp only [PySem.Str.append_assoc]
theorem sc__law_weight : FnScope ["home", "head", "lock", "words"] ["home", "head", "lock", "words"] (defScope (top 104)) := ⟨rfl, rfl, rfl, by decide +kernel, rfl, by decide +kernel, by decide +kernel⟩
theorem ok__law_weight (A : Kt K mg base) : FnAt P w K mg base 2 "_law_weight" ["home", "head", "lock", "words"] sp__law_weight := by
  obtain ⟨fd, F⟩ := A.fn 81 (d := dd "_law_weight" 104)
  refine fn_mk (A.glo 81) F sc__law_weight (by decide) (fun _ _ _ _ _ _ us hl => match us, hl with | [_, _, _, _], _ => rfl) ?_ ?_
  · intro ds Q h
    obtain ⟨h, F, O, t, rfl, ht, hq⟩ := h
    rfl
  · intro E cdv A' outer s H Ex ds Qd hr h
    obtain ⟨h, F, O, t, rfl, ht, hq⟩ := h
    refine ⟨_, (pssc_one (psc_ret (pec_call (ok__law_digest A) (hr.mono (by decide)) (pac_cons (pec_item (k := 2) (pec_var (i := 0))) (pac_cons (pec_addS (pec_addS (pec_addS (pec_addS (pec_call (ok__law_spot_text A) (hr.mono (by decide)) (pac_cons (pec_var (i := 1)) pac_nil)) pec_str) (pec_call (ok__law_spot_text A) (hr.mono (by decide)) (pac_cons (pec_var (i := 2)) pac_nil))) pec_str) (pec_var (i := 3))) pac_nil))))), ?_⟩
    have h0 := h.hn.pr.1
    have hb := h.hb.h
    have l1 := len_ptx F.1
    have l2 := len_ptx O.1
    have e : (Str.ofString " ").length = 1 := by decide
    refine ⟨h.V.p, h.V.hp, h.V.hb, F.1, rfl, ?_, h.V.p, h.V.hp, h.V.hb, O.1, rfl, ?_, ?_, ?_, h.n, _, rfl, ⟨by omega, hb, ?_⟩, ?_⟩
    · rw [sizeLine_eq]; omega
    · rw [sizeLine_eq, PySem.Str.length_append]; omega
    · rw [sizeLine_eq, PySem.Str.length_append, PySem.Str.length_append]; omega
    · rw [sizeLine_eq, PySem.Str.length_append, PySem.Str.length_append, PySem.Str.length_append]; omega
    · rw [PySem.Str.length_append, PySem.Str.length_append, PySem.Str.length_append, PySem.Str.length_append]; omega
    · unfold wt at hq
      rw [join3] at hq
      exact hq
/-! _law_worth: slots 0 words, 1 found, 2 sign -/
def sp__law_worth : Spd := fun ds Q => ∃ t : Str, ds = [.str t] ∧ Q (.int (valF t.cps.toList : Nat))
theorem sc__law_worth : FnScope ["words", "found", "sign"] ["words"] (defScope (top 105)) := ⟨rfl, rfl, rfl, by decide +kernel, rfl, by decide +kernel, by decide +kernel⟩
theorem ok__law_worth (A : Kt K mg base) : FnAt P w K mg base 1 "_law_worth" ["words"] sp__law_worth := by
  obtain ⟨fd, F⟩ := A.fn 82 (d := dd "_law_worth" 105)
  refine fn_mk (A.glo 82) F sc__law_worth (by decide) (fun _ _ _ _ _ _ us hl => match us, hl with | [_], _ => rfl) ?_ ?_
  · intro ds Q h
    obtain ⟨t, rfl, hq⟩ := h
    rfl
  · intro E cdv A' outer s H Ex ds Qd hr h
    obtain ⟨t, rfl, hq⟩ := h
    refine ⟨_, (pssc_cons (psc_set (i := 1) sc__law_worth.nd pec_int)
      (pssc_cons (psc_forS .never rfl (pec_var (i := 0)) (pgc_name (i := 2) sc__law_worth.nd) (pssc_one (psc_set (i := 1) sc__law_worth.nd (pec_addI (pec_mulC (pec_var (i := 1)) pec_int) (pec_ordc (A.free 102) (pac_cons (pec_var (i := 2)) pac_nil))))))
      (pssc_one (psc_ret (pec_var (i := 1)))))), ?_⟩
    refine ⟨fun i ρ => ∃ s2, ρ = [.d (.str t), .d (.int (valF (t.cps.toList.take i) : Nat)), s2], ⟨_, rfl⟩, ?_, ?_⟩
    · rintro i k ρ hk ⟨s2, rfl⟩
      refine ⟨.inr ⟨by decide, by decide⟩, rfl, .d (.str ⟨#[k]⟩), ?_⟩
      have e : t.cps.toList[i]? = some k := by simpa using hk
      rw [List.take_succ, e]
      show [_, Sl.d (D.int (((valF (t.cps.toList.take i) : Nat) : Int) * 257 + (k : Nat))), _] = _
      have e2 : valF (t.cps.toList.take i ++ (some k).toList) = 257 * valF (t.cps.toList.take i) + k := valF_snoc _ _
      rw [e2, Int.mul_comm]
      rfl
    · rintro ρ ⟨s2, rfl⟩
      rw [show t.cps.size = t.cps.toList.length by simp, List.take_length]
      exact hq
/-! _law_read: slots 0 worth, 1 size, 2 turn, 3 signs, 4 found, 5 left, 6 code -/
def sp__law_read : Spd := fun ds Q => ∃ m n : Nat, ds = [.int m, .int n] ∧ n ≤ 1000 ∧ ∀ z : Str, z.length ≤ n → Q (.str z)
theorem signs_at (c : Int) (h0 : 32 ≤ c) (h1 : c ≤ 126) (h2 : c ≠ 37) : ∃ k, atI signs.cps.toList (if c < 37 then c - 32 else c - 33) = some k := by
  have key : ∀ j : Fin 94, ∃ k, atI signs.cps.toList ((j.1 : Nat) : Int) = some k := fun j => by
    have hj : j.1 < signs.cps.toList.length := j.2
    exact ⟨_, atI_nat (List.getElem?_eq_getElem hj)⟩
  by_cases h : c < 37
  · rw [if_pos h]
    have e : c - 32 = (((c - 32).toNat : Nat) : Int) := by omega
    rw [e]
    exact key ⟨(c - 32).toNat, by omega⟩
  · rw [if_neg h]
    have e : c - 33 = (((c - 33).toNat : Nat) : Int) := by omega
    rw [e]
    exact key ⟨(c - 33).toNat, by omega⟩
theorem sc__law_read : FnScope ["worth", "size", "turn", "signs", "found", "left", "code"] ["worth", "size"] (defScope (top 106)) := ⟨rfl, rfl, rfl, by decide +kernel, rfl, by decide +kernel, by decide +kernel⟩
theorem ok__law_read (A : Kt K mg base) : FnAt P w K mg base 2 "_law_read" ["worth", "size"] sp__law_read := by
  obtain ⟨fd, F⟩ := A.fn 83 (d := dd "_law_read" 106)
  refine fn_mk (A.glo 83) F sc__law_read (by decide) (fun _ _ _ _ _ _ us hl => match us, hl with | [_, _], _ => rfl) ?_ ?_
  · intro ds Q h
    obtain ⟨m, n, rfl, hn, hq⟩ := h
    rfl
  · intro E cdv A' outer s H Ex ds Qd hr h
    obtain ⟨m, n, rfl, hn, hq⟩ := h
    refine ⟨_, (pssc_cons (psc_par3 (i := 3) (j := 4) (l := 5) rfl sc__law_read.nd (pac_cons (pec_call0 (ok__law_signs A) (hr.mono (by decide))) (pac_cons pec_str (pac_cons (pec_var (i := 0)) pac_nil))))
      (pssc_cons (psc_forR1 .never rfl (A.free 103) (pac_cons (pec_var (i := 1)) pac_nil) (pgc_name (i := 2) sc__law_read.nd) (pssc_cons (psc_set (i := 6) sc__law_read.nd (pec_mod (pec_var (i := 5)) pec_int))
      (pssc_cons (psc_if (PWc.pt (pwc_or (pte_lt (pec_var (i := 6)) pec_int) (pwc_or (pte_gt (pec_var (i := 6)) pec_int) (pwc_or1 (pte_eq hr.units (pec_var (i := 6)) pec_int))))) (pssc_one (psc_ret pec_str)) pssc_nil)
      (pssc_cons (psc_set (i := 4) sc__law_read.nd (pec_addS (pec_ix (pec_var (i := 3)) (pec_ifExp (pte_lt (pec_var (i := 6)) pec_int) (pec_sub (pec_var (i := 6)) pec_int) (pec_sub (pec_var (i := 6)) pec_int)) (fun _ _ => rfl)) (pec_var (i := 4))))
      (pssc_one (psc_set (i := 5) sc__law_read.nd (pec_div (pec_var (i := 5)) pec_int)))))))
      (pssc_one (psc_ret (pec_var (i := 4)))))), ?_⟩
    refine ⟨rfl, ⟨by omega, by omega⟩, fun i ρ => ∃ (s2 s6 : Cc.Sl) (z : Str) (l : Nat), ρ = [.d (.int m), .d (.int n), s2, .d (.str signs), .d (.str z), .d (.int l), s6] ∧ z.length = i ∧ i ≤ n, ⟨.no, .no, ⟨#[]⟩, m, rfl, rfl, by omega⟩, ?_, ?_⟩
    · rintro i ρ hi ⟨s2, s6, z, l, rfl, hz, hin⟩
      have hi : i < n := by simpa using hi
      have em : ((l : Nat) : Int) % 257 = ((l % 257 : Nat) : Int) := by omega
      refine ⟨(show (0 : Int) < 257 by decide), ?_⟩
      have none' : Qd (.str ⟨#[]⟩) := hq ⟨#[]⟩ (Nat.zero_le _)
      refine ⟨fun _ => ⟨fun _ => none', (fun h => nomatch h)⟩, fun h32 => ⟨fun _ => ⟨fun _ => none', (fun h => nomatch h)⟩, fun h126 => ⟨fun _ => none', fun h37 => ?_⟩⟩⟩
      have h32 : ¬ ((l : Nat) : Int) % 257 < 32 := of_decide_eq_false h32
      have h126 : ¬ 126 < ((l : Nat) : Int) % 257 := of_decide_eq_false h126
      have h37 : ¬ ((l : Nat) : Int) % 257 = 37 := of_decide_eq_false h37
      obtain ⟨k, hk⟩ := signs_at (((l : Nat) : Int) % 257) (by omega) (by omega) h37
      have sl : signs.length ≤ sizeLine := by rw [sizeLine_eq]; decide
      have nxt : z.length + 1 ≤ sizeLine := by rw [sizeLine_eq]; omega
      have fin : ∃ (s2 s6 : Cc.Sl) (z' : Str) (l' : Nat), ([.d (.int m), .d (.int n), .d (.int (0 + (i : Nat))), .d (.str signs), .d (.str (⟨#[k]⟩ ++ z)), .d (.int (((l : Nat) : Int) / 257)), .d (.int (((l : Nat) : Int) % 257))] : En) = [.d (.int m), .d (.int n), s2, .d (.str signs), .d (.str z'), .d (.int l'), s6] ∧ z'.length = i + 1 ∧ i + 1 ≤ n := by
        refine ⟨.d (.int (0 + (i : Nat))), .d (.int (((l : Nat) : Int) % 257)), ⟨#[k]⟩ ++ z, l / 257, ?_, ?_, by omega⟩
        · rw [show ((l : Nat) : Int) / 257 = ((l / 257 : Nat) : Int) by omega]
        · rw [PySem.Str.length_append, hz]; show 1 + i = i + 1; omega
      refine ⟨fun h => ?_, fun h => ?_⟩
      · have h : ((l : Nat) : Int) % 257 < 37 := of_decide_eq_true h
        rw [if_pos h] at hk
        exact ⟨k, sl, hk, by show 1 + z.length ≤ _; omega, ⟨by decide, by decide⟩, fin⟩
      · have h : ¬ ((l : Nat) : Int) % 257 < 37 := of_decide_eq_false h
        rw [if_neg h] at hk
        exact ⟨k, sl, hk, by show 1 + z.length ≤ _; omega, ⟨by decide, by decide⟩, fin⟩
    · rintro ρ ⟨s2, s6, z, l, rfl, hz, hin⟩
      exact hq z (by omega)
end
end K75
set_option Elab.async false
set_option linter.all false
set_option maxRecDepth 100000
set_option maxHeartbeats 1000000
namespace K75
open PySem PySem.Spec PyProof.Rows L2 Cc Ec
section
variable {P : Program} {w : World} {K : PySem.W.Frag} {mg : Str → Option Value} {base : Heap}
theorem any_tup {n : Nat} (h : 2 ≤ n) (h2 : n < 2 ^ 61) : 0 < n ∧ n < 2 ^ 200 := ⟨by omega, by omega⟩
/-! _law_secret: slots 0 deal, 1 order, 2 kind -/
def sp__law_secret : Spd := fun ds Q => ∃ n : Nat, ds = [.deal, .int n] ∧ (2 ≤ n ∧ n < 2 ^ 61) ∧ ∀ k : Nat, k < n → Q (.int k)
theorem sc__law_secret : FnScope ["deal", "order", "kind"] ["deal", "order"] (defScope (top 108)) := ⟨rfl, rfl, rfl, by decide +kernel, rfl, by decide +kernel, by decide +kernel⟩
theorem ok__law_secret (A : Kt K mg base) : FnAt P w K mg base 3 "_law_secret" ["deal", "order"] sp__law_secret := by
  obtain ⟨fd, F⟩ := A.fn 85 (d := dd "_law_secret" 108)
  refine fn_mk (A.glo 85) F sc__law_secret (by decide) (fun _ _ _ _ _ _ us hl => match us, hl with | [_, _], _ => rfl) ?_ ?_
  · intro ds Q h
    obtain ⟨n, rfl, hn, hq⟩ := h
    rfl
  · intro E cdv A' outer s H Ex ds Qd hr h
    obtain ⟨n, rfl, hn, hq⟩ := h
    refine ⟨_, (pssc_cons (psc_set (i := 2) sc__law_secret.nd (pec_call (ok__law_any A) (hr.mono (by decide)) (pac_cons (pec_var (i := 0)) (pac_cons pec_int pac_nil))))
      (pssc_one (psc_ret (pec_ifExp (pte_eq hr.units (pec_var (i := 2)) pec_int) (pec_call (ok__law_of A) (hr.mono (by decide)) (pac_cons (pec_var (i := 0)) (pac_cons (pec_lst (pac_cons pec_int (pac_cons pec_int (pac_cons (pec_sub (pec_var (i := 1)) pec_int) (pac_cons (pec_div (pec_var (i := 1)) pec_int) pac_nil))))) pac_nil))) (pec_call (ok__law_any A) (hr.mono (by decide)) (pac_cons (pec_var (i := 0)) (pac_cons (pec_var (i := 1)) pac_nil))))))), ?_⟩
    obtain ⟨h1, h2⟩ := hn
    refine ⟨6, rfl, ⟨by decide, by decide⟩, fun r hr => ⟨fun _ => ?_, fun _ => ⟨n, rfl, ⟨by omega, by omega⟩, hq⟩⟩⟩
    refine ⟨⟨by decide, by decide⟩, rfl, _, rfl, ⟨by simp, by simp⟩, ?_⟩
    intro x hx
    simp only [List.mem_cons, List.not_mem_nil, or_false] at hx
    rcases hx with rfl | rfl | rfl | rfl
    · exact hq 0 (by omega)
    · exact hq 1 (by omega)
    · have e : ((n : Nat) : Int) - 1 = ((n - 1 : Nat) : Int) := by omega
      show Qd (.int (((n : Nat) : Int) - 1))
      rw [e]; exact hq (n - 1) (by omega)
    · have e : ((n : Nat) : Int) / 2 = ((n / 2 : Nat) : Int) := by omega
      show Qd (.int (((n : Nat) : Int) / 2))
      rw [e]; exact hq (n / 2) (by omega)
/-! _law_signature: slots 0 home, 1 lock, 2 secret, 3 once, 4 words, 5 head, 6 weight -/
def sp__law_signature : Spd := fun ds Q => ∃ (h : Hm) (O : G h.V.C) (k o : Nat) (t : Str), ds = [encH h, encP O.1, .int k, .int o, .str t] ∧ (k < 2 ^ 61 ∧ o < 2 ^ 61 ∧ t.length ≤ 3000) ∧ Q (.lst [encP (nm o h.B).1, .int ((o + wt h (nm o h.B) O t * k) % h.n : Nat), .int (wt h (nm o h.B) O t : Nat)])
theorem sc__law_signature : FnScope ["home", "lock", "secret", "once", "words", "head", "weight"] ["home", "lock", "secret", "once", "words"] (defScope (top 110)) := ⟨rfl, rfl, rfl, by decide +kernel, rfl, by decide +kernel, by decide +kernel⟩
theorem ok__law_signature (A : Kt K mg base) : FnAt P w K mg base 4 "_law_signature" ["home", "lock", "secret", "once", "words"] sp__law_signature := by
  obtain ⟨fd, F⟩ := A.fn 87 (d := dd "_law_signature" 110)
  refine fn_mk (A.glo 87) F sc__law_signature (by decide) (fun _ _ _ _ _ _ us hl => match us, hl with | [_, _, _, _, _], _ => rfl) ?_ ?_
  · intro ds Q h
    obtain ⟨h, O, k, o, t, rfl, hk, hq⟩ := h
    rfl
  · intro E cdv A' outer s H Ex ds Qd hr h
    obtain ⟨h, O, k, o, t, rfl, hk, hq⟩ := h
    refine ⟨_, (pssc_cons (psc_set (i := 5) sc__law_signature.nd (pec_call (ok__law_times A) (hr.mono (by decide)) (pac_cons (pec_item (k := 0) (pec_var (i := 0))) (pac_cons (pec_item (k := 1) (pec_var (i := 0))) (pac_cons (pec_var (i := 3)) pac_nil)))))
      (pssc_cons (psc_set (i := 6) sc__law_signature.nd (pec_call (ok__law_weight A) (hr.mono (by decide)) (pac_cons (pec_var (i := 0)) (pac_cons (pec_var (i := 5)) (pac_cons (pec_var (i := 1)) (pac_cons (pec_var (i := 4)) pac_nil))))))
      (pssc_one (psc_ret (pec_lst (pac_cons (pec_var (i := 5)) (pac_cons (pec_mod (pec_intc (A.free 99) (pac_cons (pec_addI (pec_var (i := 3)) (pec_mul (pec_var (i := 6)) (pec_var (i := 2)))) pac_nil)) (pec_item (k := 2) (pec_var (i := 0)))) (pac_cons (pec_var (i := 6)) pac_nil)))))))), ?_⟩
    obtain ⟨h1, h2, h3⟩ := hk
    have hw := wt_lt h (nm o h.B) O t
    have hb := h.hb.h
    haveI : Sz 61 ((k : Nat) : Int) := ⟨by omega⟩
    haveI : Sz 61 ((wt h (nm o h.B) O t : Nat) : Int) := ⟨by omega⟩
    refine ⟨h.V, h.B, o, rfl, by omega, h, nm o h.B, O, t, rfl, h3, cmW, ppos h.n, rfl, ?_⟩
    have e : (((o : Nat) : Int) + (wt h (nm o h.B) O t : Nat) * k) % (h.n : Int) = (((o + wt h (nm o h.B) O t * k) % h.n : Nat) : Int) := by
      rw [Int.natCast_emod, Int.natCast_add, Int.natCast_mul]
    show Qd (.lst [_, .int ((((o : Nat) : Int) + (wt h (nm o h.B) O t : Nat) * k) % (h.n : Int)), _])
    rw [e]; exact hq
theorem sig_ok (h : Hm) (k o w : Nat) : nm ((o + w * k) % h.n) h.B = nm o h.B + nm w (nm k h.B) := by
  rw [nm_mod h.zero, nm_add, nm_mul]
theorem fi_emod {n : Nat} [Prm n] (x : Nat) : fi n ((x % n : Nat) : Int) = fi n (x : Nat) := by
  rw [Int.natCast_emod, fi_mod]
theorem fi_sub_ne {n : Nat} [Prm n] {a b : Nat} (ha : a < n) (hb : b < n) (h : a ≠ b) : fi n ((a : Int) - b) ≠ 0 := by
  intro z
  obtain ⟨c, hc⟩ := fi_zero_iff.mp z
  have : c = 0 := by
    rcases Int.lt_trichotomy c 0 with q | q | q
    · have := Int.mul_le_mul_of_nonneg_left (show c ≤ -1 by omega) (show (0 : Int) ≤ n by omega)
      omega
    · exact q
    · have := Int.mul_le_mul_of_nonneg_left (show 1 ≤ c by omega) (show (0 : Int) ≤ n by omega)
      omega
  subst this
  omega
theorem key_val (h : Hm) (k o w1 w2 : Nat) (hk : k < h.n) (h1 : w1 < h.n) (h2 : w2 < h.n) (n : w1 ≠ w2) :
    (fi h.n ((((o + w1 * k) % h.n : Nat) : Int) - ((o + w2 * k) % h.n : Nat)) * (fi h.n ((w1 : Int) - w2))⁻¹).v = k := by
  have ne := fi_sub_ne h1 h2 n
  have e : fi h.n ((((o + w1 * k) % h.n : Nat) : Int) - ((o + w2 * k) % h.n : Nat)) = fi h.n ((w1 : Int) - w2) * fi h.n k := by
    rw [fi_sub', fi_emod, fi_emod, fi_sub']
    rw [Int.natCast_add, Int.natCast_mul, Int.natCast_add, Int.natCast_mul, fi_add', fi_add', fi_mul', fi_mul']
    grind
  have e2 : fi h.n ((((o + w1 * k) % h.n : Nat) : Int) - ((o + w2 * k) % h.n : Nat)) * (fi h.n ((w1 : Int) - w2))⁻¹ = fi h.n k := by
    rw [e]
    generalize fi h.n ((w1 : Int) - w2) = a at *
    grind
  rw [e2]
  show ((k : Nat) : Int) % h.n = k
  exact Int.emod_eq_of_lt (by omega) (by omega)
theorem key_ok (h : Hm) (k o : Nat) (t1 t2 : Str) (hk : k < h.n) (F O : G h.V.C) :
    keyD h F O t1 ((o + wt h F O t1 * k) % h.n) t2 ((o + wt h F O t2 * k) % h.n) = if wt h F O t1 = wt h F O t2 then .non else .int k := by
  unfold keyD
  by_cases e : wt h F O t1 = wt h F O t2
  · rw [if_pos e, if_pos e]
  · rw [if_neg e, if_neg e, key_val h k o _ _ hk (wt_lt h F O t1) (wt_lt h F O t2) e]
theorem pure_encP {p : Nat} (X : Pt (Zp p)) (n : Nat) : pureN (n + 1) (encP X) := by
  match X with
  | none => exact ⟨by decide, fun x hx => by cases hx⟩
  | some (x, y) =>
    refine ⟨by simp, fun z hz => ?_⟩
    simp only [List.mem_cons, List.not_mem_nil, or_false] at hz
    rcases hz with rfl | rfl <;> (cases n <;> exact trivial)
theorem pure_int (i : Int) (n : Nat) : pureN n (.int i) := by cases n <;> exact trivial
theorem pure_bl (b : Bool) (n : Nat) : pureN n (.bl b) := by cases n <;> exact trivial
theorem pure_non (n : Nat) : pureN n .non := by cases n <;> exact trivial
theorem pure_tup {xs : List D} {n : Nat} (hl : xs.length ≤ 1000) (h : ∀ x ∈ xs, pureN n x) : pureN (n + 1) (.tup xs) := ⟨hl, h⟩
theorem pure2 {a b : D} {n : Nat} (h1 : pureN n a) (h2 : pureN n b) : pureN (n + 1) (.tup [a, b]) := ⟨by simp, fun x hx => by
  simp only [List.mem_cons, List.not_mem_nil, or_false] at hx
  rcases hx with rfl | rfl
  · exact h1
  · exact h2⟩
theorem pure3 {a b c : D} {n : Nat} (h1 : pureN n a) (h2 : pureN n b) (h3 : pureN n c) : pureN (n + 1) (.tup [a, b, c]) := ⟨by simp, fun x hx => by
  simp only [List.mem_cons, List.not_mem_nil, or_false] at hx
  rcases hx with rfl | rfl | rfl
  · exact h1
  · exact h2
  · exact h3⟩
theorem same_mk {a b : D} {Q : D → Prop} (e : a = b) (p : pureN 4 b) (q : Q (.bl true)) : sp__law_same [a, b] Q := ⟨b, by rw [e], p, q⟩
theorem cut_len (z : Str) (k : Nat) : (cutS z none (some ((k : Nat) : Int))).length ≤ k := by
  show (((z.cps.toList.drop (HT.sIx z.length 0 none)).take (HT.sIx z.length z.length (some (k : Int)) - HT.sIx z.length 0 none)).toArray).size ≤ k
  rw [List.size_toArray, List.length_take, HT.sIx_nat, HT.sIx_none]
  omega
theorem mul_len (z : Str) (n : Int) : (Txt.mul z n).length = z.length * n.toNat := by
  unfold Txt.mul
  by_cases h1 : n < 1
  · rw [if_pos h1, show n.toNat = 0 by omega]; rfl
  · rw [if_neg h1]
    by_cases h2 : (n == 1 || z.length == 0) = true
    · rw [if_pos h2]
      rw [Bool.or_eq_true] at h2
      rcases h2 with h2 | h2
      · have : n = 1 := by simpa using h2
        subst this; simp
      · have : z.length = 0 := by simpa using h2
        rw [this, Nat.zero_mul]
    · rw [if_neg h2]
      have key : ∀ (k : Nat) (acc : Array Nat), ((List.replicate k z.cps).foldl (· ++ ·) acc).size = acc.size + z.cps.size * k := by
        intro k
        induction k with
        | zero => intro acc; simp
        | succ k ih => intro acc; rw [List.replicate_succ, List.foldl_cons, ih, Array.size_append, Nat.mul_succ]; omega
      show ((List.replicate n.toNat z.cps).foldl (· ++ ·) #[]).size = _
      rw [key]
      show 0 + z.cps.size * n.toNat = z.cps.size * n.toNat
      omega
theorem sum_ones {l : List Str} (h : ∀ x ∈ l, x.length = 1) : (l.map (·.length)).sum = l.length := by
  induction l with
  | nil => rfl
  | cons x r ih =>
    rw [List.map_cons, List.sum_cons, List.length_cons, ih fun y hy => h y (by simp [hy]), h x (by simp)]
    omega
theorem join_len {z : Str} {l : List Str} (hz : z.length = 0) (h : ∀ x ∈ l, x.length = 1) : (Txt.join z l).length = l.length := by
  show (Builtin.Str.glued z l).length = _
  rw [size_glued, sum_ones h, hz]
  omega
/-! _law_words: slots 0 deal, 1 most, 2 size, 3 piece, 4 signs, 5 kind, 6 at -/
def sp__law_words : Spd := fun ds Q => ∃ m : Nat, ds = [.deal, .int m] ∧ m ≤ 1000 ∧ ∀ z : Str, z.length ≤ m → Q (.str z)
theorem sc__law_words : FnScope ["deal", "most", "size", "piece", "signs", "kind", "at"] ["deal", "most"] (defScope (top 101)) := ⟨rfl, rfl, rfl, by decide +kernel, rfl, by decide +kernel, by decide +kernel⟩
theorem ok__law_words (A : Kt K mg base) : FnAt P w K mg base 3 "_law_words" ["deal", "most"] sp__law_words := by
  obtain ⟨fd, F⟩ := A.fn 78 (d := dd "_law_words" 101)
  refine fn_mk (A.glo 78) F sc__law_words (by decide) (fun _ _ _ _ _ _ us hl => match us, hl with | [_, _], _ => rfl) ?_ ?_
  · intro ds Q h
    obtain ⟨m, rfl, hm, hq⟩ := h
    rfl
  · intro E cdv A' outer s H Ex ds Qd hr h
    obtain ⟨m, rfl, hm, hq⟩ := h
    refine ⟨_, (pssc_cons (psc_asg (pec_tup (pac_cons (pec_call0 (ok__law_signs A) (hr.mono (by decide))) (pac_cons (pec_call (ok__law_any A) (hr.mono (by decide)) (pac_cons (pec_var (i := 0)) (pac_cons pec_int pac_nil))) pac_nil))) (pgc_tup rfl (pgsc_cons (pgc_name (i := 4) sc__law_words.nd) (pgsc_cons (pgc_name (i := 5) sc__law_words.nd) pgsc_nil))))
      (pssc_cons (psc_if (pte_eq hr.units (pec_var (i := 5)) pec_int) (pssc_one (psc_ret (pec_cut (pec_call (ok__law_of A) (hr.mono (by decide)) (pac_cons (pec_var (i := 0)) (pac_cons (pec_lst (pac_cons pec_str (pac_cons pec_str (pac_cons pec_str (pac_cons pec_str (pac_cons pec_str (pac_cons pec_str (pac_cons pec_str (pac_cons pec_str (pac_cons pec_str (pac_cons pec_str (pac_cons pec_str (pac_cons pec_str pac_nil))))))))))))) pac_nil))) (pec_var (i := 1))))) pssc_nil)
      (pssc_cons (psc_set (i := 2) sc__law_words.nd (pec_addI pec_int (pec_call (ok__law_any A) (hr.mono (by decide)) (pac_cons (pec_var (i := 0)) (pac_cons (pec_ifExp (pte_lt (pec_var (i := 5)) pec_int) pec_int pec_int) pac_nil)))))
      (pssc_cons (psc_set (i := 3) sc__law_words.nd (pec_join pec_str (pec_lcR (iv := 6) rfl sc__law_words.nd (A.free 103) (pac_cons (pec_var (i := 2)) pac_nil) (blkOk_by (own := [("at", 6)]) rfl) (fun _ _ _ _ _ => pg_name sc__law_words.nd rfl (by first | exact .inl rfl | exact .inr rfl)) (fun _ _ _ _ _ => ptsc_nil) (fun _ _ _ _ _ => (pec_ix (pec_var (i := 4)) (pec_call (ok__law_any A) (hr.mono (by decide)) (pac_cons (pec_var (i := 0)) (pac_cons (pec_lenc (A.free 101) (pac_cons (pec_var (i := 4)) pac_nil)) pac_nil))) (fun _ _ => rfl))))))
      (pssc_cons (psc_if (pte_eq hr.units (pec_var (i := 5)) pec_int) (pssc_cons (psc_set (i := 6) sc__law_words.nd (pec_call (ok__law_any A) (hr.mono (by decide)) (pac_cons (pec_var (i := 0)) (pac_cons (pec_addI (pec_var (i := 1)) pec_int) pac_nil))))
      (pssc_cons (psc_set (i := 3) sc__law_words.nd (pec_addS (pec_cut (pec_mulS (pec_var (i := 3)) (pec_addI pec_int (pec_div (pec_var (i := 6)) (pec_lenc (A.free 101) (pac_cons (pec_var (i := 3)) pac_nil))))) (pec_var (i := 6))) (pec_mulS (pec_var (i := 3)) pec_int)))
      (pssc_one (psc_set (i := 3) sc__law_words.nd (pec_mulS (pec_var (i := 3)) (pec_addI pec_int (pec_mul (pec_call (ok__law_any A) (hr.mono (by decide)) (pac_cons (pec_var (i := 0)) (pac_cons pec_int pac_nil))) (pec_div (pec_var (i := 1)) (pec_lenc (A.free 101) (pac_cons (pec_var (i := 3)) pac_nil)))))))))) pssc_nil)
      (pssc_one (psc_ret (pec_cut (pec_var (i := 3)) (pec_var (i := 1)))))))))), ?_⟩
    have sl : signs.length ≤ sizeLine := by rw [sizeLine_eq]; decide
    have s94 : signs.length = 94 := by decide
    have fin : ∀ z : Str, Qd (.str (cutS z none (some ((m : Nat) : Int)))) := fun z => hq _ (cut_len z m)
    refine ⟨rfl, 6, rfl, ⟨by decide, by decide⟩, fun kind hkind => ⟨rfl, rfl, fun _ => ?_, fun _ => ?_⟩⟩
    · refine ⟨rfl, _, rfl, ⟨by simp, by simp⟩, ?_⟩
      intro x hx
      have : ∃ z : Str, x = .str z ∧ z.length ≤ 1000 := by
        simp only [List.mem_cons, List.not_mem_nil, or_false] at hx
        rcases hx with rfl | rfl | rfl | rfl | rfl | rfl | rfl | rfl | rfl | rfl | rfl | rfl <;> exact ⟨_, rfl, by decide⟩
      obtain ⟨z, rfl, hz⟩ := this
      exact ⟨by rw [sizeLine_eq]; omega, fin z⟩
    · dsimp only [dNext]
      refine dseq_mid (ts := dSet _ _) (us := dSeq _ _) (fun ρ => ∃ size : Nat, ρ = [.d .deal, .d (.int m), .d (.int size), .no, .d (.str signs), .d (.int kind), .no] ∧ 1 ≤ size ∧ size ≤ 60) ?_ ?_
      · intro nx hnx
        have go : ∀ b : Nat, 0 < b → b ≤ 60 → sp__law_any [.deal, .int b] fun x => II0 (fun i j => .int (i + j)) (.int 1) x fun x => nx [.d .deal, .d (.int m), .d x, .no, .d (.str signs), .d (.int kind), .no] := fun b h0 h1 => ⟨b, rfl, ⟨h0, by omega⟩, fun r hr => hnx _ ⟨1 + r, by
          show [_, _, Sl.d (.int (1 + ((r : Nat) : Int))), _, _, _, _] = _
          rw [show (1 : Int) + ((r : Nat) : Int) = ((1 + r : Nat) : Int) by omega], by omega, by omega⟩⟩
        exact ⟨fun _ => go 12 (by decide) (by decide), fun _ => go 60 (by decide) (by decide)⟩
      · rintro ρ ⟨size, rfl, h1, h60⟩
        refine dseq_mid (ts := dSet _ _) (us := dSeq _ _) (fun ρ => ∃ piece : Str, ρ = [.d .deal, .d (.int m), .d (.int size), .d (.str piece), .d (.str signs), .d (.int kind), .no] ∧ piece.length = size) ?_ ?_
        · intro nx hnx
          refine ⟨by omega, by omega, fun i acc => ∃ ys : List Str, acc = ys.map D.str ∧ ys.length = i ∧ ∀ y ∈ ys, y.length = 1, ⟨[], rfl, rfl, fun y hy => by cases hy⟩, ?_, ?_⟩
          · rintro i x acc hi rfl ⟨ys, rfl, hl, hy⟩
            refine ⟨fun _ => ⟨sl, 94, rfl, ⟨by decide, by decide⟩, fun r hr => ?_⟩, (fun h => nomatch h)⟩
            have hlt : r < signs.cps.toList.length := hr
            refine ⟨_, sl, atI_nat (List.getElem?_eq_getElem hlt), ys ++ [⟨#[signs.cps.toList[r]]⟩], ?_, ?_, fun y hy' => ?_⟩
            · rw [List.map_append]; rfl
            · rw [List.length_append, hl]; rfl
            · rcases List.mem_append.mp hy' with q | q
              · exact hy y q
              · rw [List.mem_singleton.mp q]; rfl
          · rintro acc ⟨ys, rfl, hl, hy⟩
            have hl : ys.length = size := by rw [hl]; rfl
            refine ⟨ys, asStrs_of ys, ?_, hnx _ ⟨_, rfl, ?_⟩⟩
            · rw [sum_ones hy]
              have : (Str.ofString "").length = 0 := by decide
              rw [this]; omega
            · rw [join_len (by decide) hy, hl]
        · rintro ρ ⟨piece, rfl, hp⟩
          refine dseq_mid (ts := dIfS _ _ _) (us := dRet _) (fun ρ => ∃ (z : Str) (s6 : Cc.Sl), ρ = [.d .deal, .d (.int m), .d (.int size), .d (.str z), .d (.str signs), .d (.int kind), s6] ∧ z.length ≤ 16777216) ?_ ?_
          · intro nx hnx
            refine ⟨fun _ => ?_, fun _ => hnx _ ⟨piece, _, rfl, by omega⟩⟩
            refine ⟨m + 1, ?_, ⟨by omega, by omega⟩, fun at_ hat => ?_⟩
            · show [_, D.int (((m : Nat) : Int) + 1)] = _
              rw [show ((m : Nat) : Int) + 1 = ((m + 1 : Nat) : Int) by omega]
            have e1 : ((at_ : Nat) : Int) / ((piece.length : Nat) : Int) = ((at_ / piece.length : Nat) : Int) := by rw [Int.natCast_ediv]
            have hsq : at_ / piece.length ≤ at_ := Nat.div_le_self _ _
            have hmul : piece.length * (1 + at_ / piece.length) ≤ 1060 := by
              rw [Nat.mul_add]
              have := Nat.mul_div_le at_ piece.length
              omega
            have e2 : (1 + ((at_ : Nat) : Int) / ((piece.length : Nat) : Int)).toNat = 1 + at_ / piece.length := by rw [e1]; generalize at_ / piece.length = q; omega
            have e3 : (1 + ((at_ : Nat) : Int) / ((piece.length : Nat) : Int)) = ((1 + at_ / piece.length : Nat) : Int) := by rw [e1]; generalize at_ / piece.length = q; omega
            haveI : Sz 61 ((piece.length : Nat) : Int) := ⟨by omega⟩
            have l1 := mul_len piece (1 + ((at_ : Nat) : Int) / ((piece.length : Nat) : Int))
            rw [e2] at l1
            refine ⟨by rw [sizeLine_eq]; omega, cdW (by omega), ?_, ?_, ?_, ?_, ?_⟩
            · show piece.length * (1 + ((at_ : Nat) : Int) / ((piece.length : Nat) : Int)).toNat ≤ _
              rw [e2]; omega
            · show 1 + ((at_ : Nat) : Int) / ((piece.length : Nat) : Int) < _
              rw [e3]; omega
            · show _ < 1 + ((at_ : Nat) : Int) / ((piece.length : Nat) : Int)
              rw [e3]; omega
            · rw [sizeLine_eq]; omega
            have l2 := cut_len (Txt.mul piece (1 + ((at_ : Nat) : Int) / ((piece.length : Nat) : Int))) at_
            have l3 := mul_len piece 9
            have e9 : (9 : Int).toNat = 9 := rfl
            rw [e9] at l3
            refine ⟨by rw [e9]; omega, by decide, by decide, by rw [sizeLine_eq]; omega, ?_⟩
            generalize hw : cutS (Txt.mul piece (1 + ((at_ : Nat) : Int) / ((piece.length : Nat) : Int))) none (some ((at_ : Nat) : Int)) ++ Txt.mul piece 9 = wv
            have wl : wv.length ≤ at_ + piece.length * 9 ∧ 0 < wv.length := by
              rw [← hw, PySem.Str.length_append]; omega
            clear hw
            obtain ⟨wl, w0⟩ := wl
            refine ⟨2, rfl, ⟨by decide, by decide⟩, fun r hr => ?_⟩
            haveI : Sz 61 ((wv.length : Nat) : Int) := ⟨by omega⟩
            haveI : Sz 61 ((r : Nat) : Int) := ⟨by omega⟩
            have f1 : ((m : Nat) : Int) / ((wv.length : Nat) : Int) = ((m / wv.length : Nat) : Int) := by rw [Int.natCast_ediv]
            have f2 : m / wv.length ≤ m := Nat.div_le_self _ _
            haveI : Sz 61 (((m : Nat) : Int) / ((wv.length : Nat) : Int)) := ⟨by rw [f1, Int.natAbs_natCast]; exact Nat.lt_of_le_of_lt f2 (by omega)⟩
            have f3 : r * (m / wv.length) ≤ m := by
              have := Nat.mul_le_mul_right (m / wv.length) (show r ≤ 1 by omega)
              omega
            have f4 : 1 + ((r : Nat) : Int) * (((m : Nat) : Int) / ((wv.length : Nat) : Int)) = ((1 + r * (m / wv.length) : Nat) : Int) := by
              rw [f1, ← Int.natCast_mul]; omega
            have f5 : wv.length * (1 + r * (m / wv.length)) ≤ 1600 * 1001 := Nat.mul_le_mul (by omega) (by omega)
            refine ⟨by rw [sizeLine_eq]; omega, cdW (by omega), cmW, ?_, ?_, ?_, hnx _ ⟨_, _, rfl, ?_⟩⟩
            · show wv.length * (1 + ((r : Nat) : Int) * (((m : Nat) : Int) / ((wv.length : Nat) : Int))).toNat ≤ _
              rw [f4, Int.toNat_natCast]; omega
            · show 1 + ((r : Nat) : Int) * (((m : Nat) : Int) / ((wv.length : Nat) : Int)) < _
              rw [f4]; omega
            · show _ < 1 + ((r : Nat) : Int) * (((m : Nat) : Int) / ((wv.length : Nat) : Int))
              rw [f4]; omega
            · rw [mul_len, f4, Int.toNat_natCast]; omega
          · rintro ρ ⟨z, s6, rfl, hz⟩
            exact ⟨by rw [sizeLine_eq]; exact hz, fin z⟩
/-! _law_two_texts: slots 0 deal, 1 order, 2 pair, 3 kind, 4 front -/
def sp__law_two_texts : Spd := fun ds Q => ∃ (n : D) (a b : Str), ds = [.deal, n, .tup [.str a, .str b]] ∧ (a.length ≤ 100 ∧ b.length ≤ 100) ∧ ∀ t1 t2 : Str, t1.length ≤ 1000 → t2.length ≤ 1000 → Q (.tup [.str t1, .str t2])
theorem sc__law_two_texts : FnScope ["deal", "order", "pair", "kind", "front"] ["deal", "order", "pair"] (defScope (top 109)) := ⟨rfl, rfl, rfl, by decide +kernel, rfl, by decide +kernel, by decide +kernel⟩
theorem ok__law_two_texts (A : Kt K mg base) : FnAt P w K mg base 4 "_law_two_texts" ["deal", "order", "pair"] sp__law_two_texts := by
  obtain ⟨fd, F⟩ := A.fn 86 (d := dd "_law_two_texts" 109)
  refine fn_mk (A.glo 86) F sc__law_two_texts (by decide) (fun _ _ _ _ _ _ us hl => match us, hl with | [_, _, _], _ => rfl) ?_ ?_
  · intro ds Q h
    obtain ⟨n, a, b, rfl, hab, hq⟩ := h
    rfl
  · intro E cdv A' outer s H Ex ds Qd hr h
    obtain ⟨n, a, b, rfl, hab, hq⟩ := h
    refine ⟨_, (pssc_cons (psc_par (i := 3) (j := 4) rfl sc__law_two_texts.nd (pac_cons (pec_call (ok__law_any A) (hr.mono (by decide)) (pac_cons (pec_var (i := 0)) (pac_cons pec_int pac_nil))) (pac_cons (pec_call (ok__law_words A) (hr.mono (by decide)) (pac_cons (pec_var (i := 0)) (pac_cons pec_int pac_nil))) pac_nil)))
      (pssc_cons (psc_if (pte_eq hr.units (pec_var (i := 3)) pec_int) (pssc_one (psc_ret (pec_tup (pac_cons (pec_var (i := 4)) (pac_cons (pec_var (i := 4)) pac_nil))))) pssc_nil)
      (pssc_cons (psc_if (pte_eq hr.units (pec_var (i := 3)) pec_int) (pssc_one (psc_ret (pec_tup (pac_cons (pec_addS (pec_var (i := 4)) (pec_item (k := 0) (pec_var (i := 2)))) (pac_cons (pec_addS (pec_var (i := 4)) (pec_item (k := 1) (pec_var (i := 2)))) pac_nil))))) pssc_nil)
      (pssc_cons (psc_if (pte_eq hr.units (pec_var (i := 3)) pec_int) (pssc_one (psc_ret (pec_tup (pac_cons (pec_addS (pec_var (i := 4)) (pec_item (k := 1) (pec_var (i := 2)))) (pac_cons (pec_addS (pec_var (i := 4)) (pec_call (ok__law_words A) (hr.mono (by decide)) (pac_cons (pec_var (i := 0)) (pac_cons pec_int pac_nil)))) pac_nil))))) pssc_nil)
      (pssc_one (psc_ret (pec_tup (pac_cons (pec_call (ok__law_words A) (hr.mono (by decide)) (pac_cons (pec_var (i := 0)) (pac_cons pec_int pac_nil))) (pac_cons (pec_call (ok__law_words A) (hr.mono (by decide)) (pac_cons (pec_var (i := 0)) (pac_cons pec_int pac_nil))) pac_nil))))))))), ?_⟩
    obtain ⟨ha, hb⟩ := hab
    refine ⟨4, rfl, ⟨by decide, by decide⟩, fun kind hk => ⟨480, rfl, by decide, fun z hz => ⟨fun _ => ⟨rfl, hq z z (by omega) (by omega)⟩, fun _ => ⟨fun _ => ?_, fun _ => ⟨fun _ => ?_, fun _ => ?_⟩⟩⟩⟩⟩
    · refine ⟨by rw [sizeLine_eq]; omega, by rw [sizeLine_eq]; omega, rfl, hq _ _ ?_ ?_⟩ <;> rw [PySem.Str.length_append] <;> omega
    · refine ⟨by rw [sizeLine_eq]; omega, 20, rfl, by decide, fun y hy => ⟨by rw [sizeLine_eq]; omega, rfl, hq _ _ ?_ ?_⟩⟩ <;> rw [PySem.Str.length_append] <;> omega
    · exact ⟨500, rfl, by decide, fun y hy => ⟨500, rfl, by decide, fun y2 hy2 => ⟨rfl, hq _ _ (by omega) (by omega)⟩⟩⟩
theorem valF_lt {l : List Nat} (h : ∀ c ∈ l, c < 257) : valF l < 257 ^ l.length := by
  induction l with
  | nil => show 0 < _; simp
  | cons c r ih =>
    have h1 := ih fun x hx => h x (by simp [hx])
    have h2 := h c (by simp)
    rw [valF_cons, List.length_cons, Nat.pow_succ]
    have := Nat.mul_le_mul_right (257 ^ r.length) (show c ≤ 256 by omega)
    omega
theorem mul_mem {z : Str} {n : Int} {c : Nat} (h : c ∈ (Txt.mul z n).cps.toList) : c ∈ z.cps.toList := by
  unfold Txt.mul at h
  by_cases h1 : n < 1
  · rw [if_pos h1] at h; cases h
  · rw [if_neg h1] at h
    by_cases h2 : (n == 1 || z.length == 0) = true
    · rw [if_pos h2] at h; exact h
    · rw [if_neg h2] at h
      have key : ∀ (k : Nat) (acc : Array Nat), c ∈ ((List.replicate k z.cps).foldl (· ++ ·) acc).toList → c ∈ acc.toList ∨ c ∈ z.cps.toList := by
        intro k
        induction k with
        | zero => intro acc h; exact .inl h
        | succ k ih =>
          intro acc h
          rw [List.replicate_succ, List.foldl_cons] at h
          rcases ih _ h with q | q
          · rw [Array.toList_append] at q
            rcases List.mem_append.mp q with q | q
            · exact .inl q
            · exact .inr q
          · exact .inr q
      rcases key _ _ h with q | q
      · cases q
      · exact q
theorem tilde_lt (s : Nat) (hs : s ≤ 9) : valF (Txt.mul (Str.ofString "~") (s : Nat)).cps.toList < 2 ^ 100 := by
  have h1 : ∀ c ∈ (Str.ofString "~").cps.toList, c < 257 := by decide
  have h := valF_lt (l := (Txt.mul (Str.ofString "~") (s : Nat)).cps.toList) fun c hc => h1 c (mul_mem hc)
  have e : (Txt.mul (Str.ofString "~") (s : Nat)).cps.toList.length = s := by
    rw [Array.length_toList]
    show (Txt.mul (Str.ofString "~") (s : Nat)).length = s
    rw [mul_len, show (Str.ofString "~").length = 1 by decide]
    simp
  rw [e] at h
  exact Nat.lt_of_lt_of_le h (Nat.le_trans (Nat.pow_le_pow_right (by decide) hs) (by decide))
/-! _law_meeting: slots 0 deal, 1 order, 2 turn, 3 one, 4 many, 5 signs, 6 size, 7 room, 8 worth, 9 most, 10 other, 11 words, 12 at -/
def sp__law_meeting : Spd := fun ds Q => ∃ n : Nat, ds = [.deal, .int n] ∧ (2 ≤ n ∧ n < 2 ^ 61) ∧ ∀ a b : Str, a.length ≤ 100 → b.length ≤ 100 → Q (.tup [.str a, .str b])
theorem sc__law_meeting : FnScope ["deal", "order", "turn", "one", "many", "signs", "size", "room", "worth", "most", "other", "words", "at"] ["deal", "order"] (defScope (top 107)) := ⟨rfl, rfl, rfl, by decide +kernel, rfl, by decide +kernel, by decide +kernel⟩
theorem ok__law_meeting (A : Kt K mg base) : FnAt P w K mg base 3 "_law_meeting" ["deal", "order"] sp__law_meeting := by
  obtain ⟨fd, F⟩ := A.fn 84 (d := dd "_law_meeting" 107)
  refine fn_mk (A.glo 84) F sc__law_meeting (by decide) (fun _ _ _ _ _ _ us hl => match us, hl with | [_, _], _ => rfl) ?_ ?_
  · intro ds Q h
    obtain ⟨n, rfl, hn, hq⟩ := h
    rfl
  · intro E cdv A' outer s H Ex ds Qd hr h
    obtain ⟨n, rfl, hn, hq⟩ := h
    refine ⟨_, (pssc_cons (psc_asg (pec_tup (pac_cons (pec_call0 (ok__law_signs A) (hr.mono (by decide))) (pac_cons pec_int (pac_cons pec_int pac_nil)))) (pgc_tup rfl (pgsc_cons (pgc_name (i := 5) sc__law_meeting.nd) (pgsc_cons (pgc_name (i := 6) sc__law_meeting.nd) (pgsc_cons (pgc_name (i := 7) sc__law_meeting.nd) pgsc_nil)))))
      (pssc_cons (psc_forR1 .never rfl (A.free 103) (pac_cons pec_int pac_nil) (pgc_name (i := 2) sc__law_meeting.nd) (pssc_cons (psc_if (pte_gt (pec_var (i := 7)) (pec_mul pec_int (pec_var (i := 1)))) (pssc_one psc_break) pssc_nil)
      (pssc_one (psc_par (i := 6) (j := 7) rfl sc__law_meeting.nd (pac_cons (pec_addI (pec_var (i := 6)) pec_int) (pac_cons (pec_mul (pec_var (i := 7)) pec_int) pac_nil))))))
      (pssc_cons (psc_set (i := 3) sc__law_meeting.nd (pec_join pec_str (pec_lcR (iv := 12) rfl sc__law_meeting.nd (A.free 103) (pac_cons (pec_var (i := 6)) pac_nil) (blkOk_by (own := [("at", 12)]) rfl) (fun _ _ _ _ _ => pg_name sc__law_meeting.nd rfl (by first | exact .inl rfl | exact .inr rfl)) (fun _ _ _ _ _ => ptsc_nil) (fun _ _ _ _ _ => (pec_ix (pec_var (i := 5)) (pec_call (ok__law_any A) (hr.mono (by decide)) (pac_cons (pec_var (i := 0)) (pac_cons (pec_lenc (A.free 101) (pac_cons (pec_var (i := 5)) pac_nil)) pac_nil))) (fun _ _ => rfl))))))
      (pssc_cons (psc_par (i := 8) (j := 9) rfl sc__law_meeting.nd (pac_cons (pec_call (ok__law_worth A) (hr.mono (by decide)) (pac_cons (pec_var (i := 3)) pac_nil)) (pac_cons (pec_call (ok__law_worth A) (hr.mono (by decide)) (pac_cons (pec_mulS pec_str (pec_var (i := 6))) pac_nil)) pac_nil)))
      (pssc_cons (psc_set (i := 4) sc__law_meeting.nd (pec_call (ok__law_any A) (hr.mono (by decide)) (pac_cons (pec_var (i := 0)) (pac_cons (pec_addI pec_int (pec_div (pec_var (i := 9)) (pec_var (i := 1)))) pac_nil))))
      (pssc_cons (psc_forR1 .never rfl (A.free 103) (pac_cons pec_int pac_nil) (pgc_name (i := 2) sc__law_meeting.nd) (pssc_cons (psc_set (i := 10) sc__law_meeting.nd (pec_addI (pec_mod (pec_intc (A.free 99) (pac_cons (pec_var (i := 8)) pac_nil)) (pec_var (i := 1))) (pec_mul (pec_mod (pec_intc (A.free 99) (pac_cons (pec_addI (pec_var (i := 4)) (pec_var (i := 2))) pac_nil)) (pec_addI pec_int (pec_div (pec_var (i := 9)) (pec_var (i := 1))))) (pec_var (i := 1)))))
      (pssc_cons (psc_set (i := 11) sc__law_meeting.nd (pec_ifExp (PWc.pt (pwc_and (pte_ne hr.units (pec_var (i := 10)) (pec_var (i := 8))) (pwc_and1 (pte_chain (rd := (II0 fun i j => .bl (decide (i ≤ j)))) (rd' := (II0 fun i j => .bl (decide (i ≤ j)))) op_le op_le (fitI0 fun _ _ _ => rfl) (fitI0 fun _ _ _ => rfl) pec_int (pec_mod (pec_intc (A.free 99) (pac_cons (pec_var (i := 10)) pac_nil)) pec_int) pec_int)))) (pec_call (ok__law_read A) (hr.mono (by decide)) (pac_cons (pec_var (i := 10)) (pac_cons (pec_var (i := 6)) pac_nil))) pec_str))
      (pssc_one (psc_if (pte_ne hr.units (pec_var (i := 11)) pec_str) (pssc_one (psc_ret (pec_tup (pac_cons (pec_var (i := 3)) (pac_cons (pec_var (i := 11)) pac_nil))))) pssc_nil)))))
      (pssc_one (psc_ret (pec_tup (pac_cons (pec_var (i := 3)) (pac_cons (pec_var (i := 3)) pac_nil))))))))))), ?_⟩
    obtain ⟨n2, n61⟩ := hn
    have sl : signs.length ≤ sizeLine := by rw [sizeLine_eq]; decide
    haveI : Sz 61 ((n : Nat) : Int) := ⟨by omega⟩
    haveI : Sz 8 (12 : Int) := ⟨by decide⟩
    haveI : Sz 8 (94 : Int) := ⟨by decide⟩
    refine ⟨rfl, rfl, rfl, ?_⟩
    dsimp only [gCn, gNm, gNl]
    refine dseq_mid (ts := dForR1 _ _ _) (us := dSeq _ _) (fun ρ => ∃ (s : Nat) (s2 s7 : Cc.Sl), ρ = [.d .deal, .d (.int n), s2, .no, .no, .d (.str signs), .d (.int s), s7, .no, .no, .no, .no, .no] ∧ 1 ≤ s ∧ s ≤ 9) ?_ ?_
    · intro nx hnx
      refine ⟨⟨by decide, by decide⟩, fun i ρ => ∃ (s r : Nat) (s2 : Cc.Sl), ρ = [.d .deal, .d (.int n), s2, .no, .no, .d (.str signs), .d (.int s), .d (.int r), .no, .no, .no, .no, .no] ∧ 1 ≤ s ∧ s ≤ 1 + i ∧ i ≤ 8 ∧ r < 2 ^ (7 * (i + 1)), ⟨1, 94, .no, rfl, by omega, by omega, by omega, by decide⟩, ?_, ?_⟩
      · rintro i ρ hi ⟨s, r, s2, rfl, h1, h2, h3, h4⟩
        have hi : i < 8 := hi
        have h5 : (2 : Nat) ^ (7 * (i + 1)) ≤ 2 ^ 56 := Nat.pow_le_pow_right (by decide) (by omega)
        haveI : Sz 61 ((r : Nat) : Int) := ⟨by omega⟩
        refine ⟨cmW, fun _ => hnx _ ⟨s, _, _, rfl, h1, by omega⟩, fun _ => ⟨cmW, s + 1, r * 94, .d (.int (0 + (i : Nat))), rfl, by omega, by omega, by omega, ?_⟩⟩
        have e : 7 * (i + 1 + 1) = 7 * (i + 1) + 7 := by omega
        rw [e, Nat.pow_add]
        have : r * 94 < 2 ^ (7 * (i + 1)) * 128 := by
          have := Nat.mul_le_mul_right 94 (Nat.le_of_lt h4)
          have : 0 < 2 ^ (7 * (i + 1)) := Nat.pos_of_ne_zero (by simp)
          omega
        exact this
      · rintro ρ ⟨s, r, s2, rfl, h1, h2, h3, h4⟩
        exact hnx _ ⟨s, _, _, rfl, h1, by simpa using h2⟩
    · rintro ρ ⟨s, s2, s7, rfl, h1, h9⟩
      refine dseq_mid (ts := dSet _ _) (us := dSeq _ _) (fun ρ => ∃ one : Str, ρ = [.d .deal, .d (.int n), s2, .d (.str one), .no, .d (.str signs), .d (.int s), s7, .no, .no, .no, .no, .no] ∧ one.length = s) ?_ ?_
      · intro nx hnx
        refine ⟨by omega, by omega, fun i acc => ∃ ys : List Str, acc = ys.map D.str ∧ ys.length = i ∧ ∀ y ∈ ys, y.length = 1, ⟨[], rfl, rfl, fun y hy => by cases hy⟩, ?_, ?_⟩
        · rintro i x acc hi rfl ⟨ys, rfl, hl, hy⟩
          refine ⟨fun _ => ⟨sl, 94, rfl, ⟨by decide, by decide⟩, fun r hr => ?_⟩, (fun h => nomatch h)⟩
          have hlt : r < signs.cps.toList.length := hr
          refine ⟨_, sl, atI_nat (List.getElem?_eq_getElem hlt), ys ++ [⟨#[signs.cps.toList[r]]⟩], ?_, ?_, fun y hy' => ?_⟩
          · rw [List.map_append]; rfl
          · rw [List.length_append, hl]; rfl
          · rcases List.mem_append.mp hy' with q | q
            · exact hy y q
            · rw [List.mem_singleton.mp q]; rfl
        · rintro acc ⟨ys, rfl, hl, hy⟩
          have hl : ys.length = s := by rw [hl]; rfl
          refine ⟨ys, asStrs_of ys, ?_, hnx _ ⟨_, rfl, ?_⟩⟩
          · rw [sum_ones hy]
            have : (Str.ofString "").length = 0 := by decide
            rw [this]; omega
          · rw [join_len (by decide) hy, hl]
      · rintro ρ ⟨one, rfl, hone⟩
        have hm := tilde_lt s h9
        have l1 : (Str.ofString "~").length = 1 := by decide
        refine ⟨one, rfl, ?_, by omega, by omega, _, rfl, ?_⟩
        · rw [l1]; omega
        generalize valF (Txt.mul (Str.ofString "~") ((s : Nat) : Int)).cps.toList = most at hm
        have e1 : (1 : Int) + ((most : Nat) : Int) / ((n : Nat) : Int) = ((1 + most / n : Nat) : Int) := by rw [← Int.natCast_ediv]; omega
        have f2 : most / n ≤ most := Nat.div_le_self _ _
        have f3 : 1 + most / n < 2 ^ 101 := by generalize most / n = q at f2; omega
        refine ⟨cdW (by omega), 1 + most / n, ?_, ⟨Nat.lt_add_right _ Nat.one_pos, Nat.lt_trans f3 (by decide)⟩, fun mv hmv => ?_⟩
        · show [_, D.int ((1 : Int) + ((most : Nat) : Int) / ((n : Nat) : Int))] = _
          rw [e1]
        generalize valF one.cps.toList = worth
        refine ⟨⟨by decide, by decide⟩, fun i ρ => ∃ s2 s10 s11, ρ = [.d .deal, .d (.int n), s2, .d (.str one), .d (.int mv), .d (.str signs), .d (.int s), s7, .d (.int worth), .d (.int most), s10, s11, .no], ⟨_, _, _, rfl⟩, ?_, ?_⟩
        · rintro i ρ hi ⟨s2, s10, s11, rfl⟩
          have pm : (0 : Int) < 1 + ((most : Nat) : Int) / ((n : Nat) : Int) := by rw [e1]; generalize most / n = q; omega
          have r0 := Int.emod_nonneg (((mv : Nat) : Int) + (0 + (i : Nat))) (show (1 : Int) + ((most : Nat) : Int) / ((n : Nat) : Int) ≠ 0 by omega)
          have r1 := Int.emod_lt_of_pos (((mv : Nat) : Int) + (0 + (i : Nat))) pm
          have w0 := Int.emod_nonneg ((worth : Nat) : Int) (show ((n : Nat) : Int) ≠ 0 by omega)
          haveI : Sz 101 ((((mv : Nat) : Int) + (0 + (i : Nat))) % (1 + ((most : Nat) : Int) / ((n : Nat) : Int))) := ⟨by
            have h := Int.lt_of_lt_of_le r1 (Int.le_of_eq e1)
            generalize most / n = q at h f3
            generalize (((mv : Nat) : Int) + (0 + (i : Nat))) % (1 + ((most : Nat) : Int) / ((n : Nat) : Int)) = x at h r0
            omega⟩
          refine ⟨by omega, cdW (by omega), pm, cmW, ?_⟩
          obtain ⟨o, ho⟩ : ∃ o : Nat, ((worth : Nat) : Int) % ((n : Nat) : Int) + (((mv : Nat) : Int) + (0 + (i : Nat))) % (1 + ((most : Nat) : Int) / ((n : Nat) : Int)) * ((n : Nat) : Int) = (o : Nat) := by
            have h3 := Int.mul_nonneg r0 (show (0 : Int) ≤ (n : Nat) by omega)
            exact ⟨(((worth : Nat) : Int) % ((n : Nat) : Int) + (((mv : Nat) : Int) + (0 + (i : Nat))) % (1 + ((most : Nat) : Int) / ((n : Nat) : Int)) * ((n : Nat) : Int)).toNat, by omega⟩
          have fin : ∀ (z : Str) (ρ' : En), z.length ≤ s → ρ' = [.d .deal, .d (.int n), .d (.int (0 + (i : Nat))), .d (.str one), .d (.int mv), .d (.str signs), .d (.int s), s7, .d (.int worth), .d (.int most), .d (.int o), .d (.str z), .no] →
            (dIfS (dB (dOp (EqD not) (dVar 11) (dC (.str (Str.ofString ""))))) (dRet (dTup (dCons (dVar 3) (dCons (dVar 11) dNil)))) dNext)
              ⟨fun ρ => ∃ s2 s10 s11, ρ = [.d .deal, .d (.int n), s2, .d (.str one), .d (.int mv), .d (.str signs), .d (.int s), s7, .d (.int worth), .d (.int most), s10, s11, .no], Qd, fun ρ => dRet (dTup (dCons (dVar 3) (dCons (dVar 3) dNil))) ⟨fun _ => Qd .non, Qd, fun _ => False, fun _ => False⟩ ρ, fun ρ => ∃ s2 s10 s11, ρ = [.d .deal, .d (.int n), s2, .d (.str one), .d (.int mv), .d (.str signs), .d (.int s), s7, .d (.int worth), .d (.int most), s10, s11, .no]⟩ ρ' := by
            rintro z ρ' hz rfl
            exact ⟨fun _ => ⟨rfl, hq one z (by omega) (by omega)⟩, fun _ => ⟨_, _, _, rfl⟩⟩
          have cell : ∀ z : Str, z.length ≤ s → Cc.st (Cc.st (Cc.st [.d .deal, .d (.int n), s2, .d (.str one), .d (.int mv), .d (.str signs), .d (.int s), s7, .d (.int worth), .d (.int most), s10, s11, .no] 2 (.d (.int (0 + (i : Nat))))) 10 (.d (.int (((worth : Nat) : Int) % ((n : Nat) : Int) + (((mv : Nat) : Int) + (0 + (i : Nat))) % (1 + ((most : Nat) : Int) / ((n : Nat) : Int)) * ((n : Nat) : Int))))) 11 (.d (.str z)) = [.d .deal, .d (.int n), .d (.int (0 + (i : Nat))), .d (.str one), .d (.int mv), .d (.str signs), .d (.int s), s7, .d (.int worth), .d (.int most), .d (.int o), .d (.str z), .no] := fun z _ => by
            rw [ho]; rfl
          have emp : (Str.ofString "").length ≤ s := Nat.zero_le _
          have read : sp__law_read [.int (((worth : Nat) : Int) % ((n : Nat) : Int) + (((mv : Nat) : Int) + (0 + (i : Nat))) % (1 + ((most : Nat) : Int) / ((n : Nat) : Int)) * ((n : Nat) : Int)), .int (s : Nat)] fun x => ∃ z : Str, x = .str z ∧ z.length ≤ s := by
            rw [ho]
            exact ⟨o, s, rfl, by omega, fun z hz => ⟨z, rfl, hz⟩⟩
          obtain ⟨ro, rs, re, rl, rq⟩ := read
          refine ⟨fun _ => ⟨(show (0 : Int) < 257 by decide), fun _ => ⟨fun _ => ?_, fun _ => fin _ _ emp (cell _ emp)⟩, fun _ => ⟨(fun h => nomatch h), fun _ => fin _ _ emp (cell _ emp)⟩⟩, fun _ => ⟨(fun h => nomatch h), fun _ => fin _ _ emp (cell _ emp)⟩⟩
          refine ⟨ro, rs, re, rl, fun z hz => ?_⟩
          obtain ⟨z', e', hz'⟩ := rq z hz
          cases e'
          exact fin z _ hz' (cell z hz')
        · rintro ρ ⟨s2, s10, s11, rfl⟩
          exact ⟨rfl, hq one one (by omega) (by omega)⟩
end
end K75
set_option Elab.async false
set_option linter.all false
set_option maxRecDepth 100000
set_option maxHeartbeats 1000000
namespace K75
open PySem PySem.Spec PyProof.Rows L2 Cc Ec
section
variable {P : Program} {w : World} {K : PySem.W.Frag} {mg : Str → Option Value} {base : Heap}
/-! _law_told_right: slots 0 deal, 1 home, 2 pair, 3 lock, 4 due, 5 cubic, 6 start, 7 order, 8 secret, 9 once, 10 words, 11 others, 12 one, 13 two -/
def sp__law_told_right : Spd := fun ds Q => ∃ (h : Hm) (a b : Str), ds = [.deal, encH h, .tup [.str a, .str b]] ∧ (a.length ≤ 100 ∧ b.length ≤ 100) ∧ Q (.bl true)
theorem sc__law_told_right : FnScope ["deal", "home", "pair", "lock", "due", "cubic", "start", "order", "secret", "once", "words", "others", "one", "two"] ["deal", "home", "pair"] (defScope (top 111)) := ⟨rfl, rfl, rfl, by decide +kernel, rfl, by decide +kernel, by decide +kernel⟩
theorem ok__law_told_right (A : Kt K mg base) : FnAt P w K mg base 9 "_law_told_right" ["deal", "home", "pair"] sp__law_told_right := by
  obtain ⟨fd, F⟩ := A.fn 88 (d := dd "_law_told_right" 111)
  refine fn_mk (A.glo 88) F sc__law_told_right (by decide) (fun _ _ _ _ _ _ us hl => match us, hl with | [_, _, _], _ => rfl) ?_ ?_
  · intro ds Q h
    obtain ⟨h, a, b, rfl, hab, hq⟩ := h
    rfl
  · intro E cdv A' outer s H Ex ds Qd hr h
    obtain ⟨h, a, b, rfl, hab, hq⟩ := h
    refine ⟨_, (pssc_cons (psc_asg (pec_var (i := 1)) (pgc_tup rfl (pgsc_cons (pgc_name (i := 5) sc__law_told_right.nd) (pgsc_cons (pgc_name (i := 6) sc__law_told_right.nd) (pgsc_cons (pgc_name (i := 7) sc__law_told_right.nd) pgsc_nil)))))
      (pssc_cons (psc_par (i := 8) (j := 9) rfl sc__law_told_right.nd (pac_cons (pec_call (ok__law_secret A) (hr.mono (by decide)) (pac_cons (pec_var (i := 0)) (pac_cons (pec_var (i := 7)) pac_nil))) (pac_cons (pec_call (ok__law_secret A) (hr.mono (by decide)) (pac_cons (pec_var (i := 0)) (pac_cons (pec_var (i := 7)) pac_nil))) pac_nil)))
      (pssc_cons (psc_asg (pec_call (ok__law_two_texts A) (hr.mono (by decide)) (pac_cons (pec_var (i := 0)) (pac_cons (pec_var (i := 7)) (pac_cons (pec_var (i := 2)) pac_nil)))) (pgc_tup rfl (pgsc_cons (pgc_name (i := 10) sc__law_told_right.nd) (pgsc_cons (pgc_name (i := 11) sc__law_told_right.nd) pgsc_nil))))
      (pssc_cons (psc_set (i := 3) sc__law_told_right.nd (pec_call (ok__law_times A) (hr.mono (by decide)) (pac_cons (pec_var (i := 5)) (pac_cons (pec_var (i := 6)) (pac_cons (pec_var (i := 8)) pac_nil)))))
      (pssc_cons (psc_par (i := 12) (j := 13) rfl sc__law_told_right.nd (pac_cons (pec_call (ok__law_signature A) (hr.mono (by decide)) (pac_cons (pec_var (i := 1)) (pac_cons (pec_var (i := 3)) (pac_cons (pec_var (i := 8)) (pac_cons (pec_var (i := 9)) (pac_cons (pec_var (i := 10)) pac_nil)))))) (pac_cons (pec_call (ok__law_signature A) (hr.mono (by decide)) (pac_cons (pec_var (i := 1)) (pac_cons (pec_var (i := 3)) (pac_cons (pec_var (i := 8)) (pac_cons (pec_var (i := 9)) (pac_cons (pec_var (i := 11)) pac_nil)))))) pac_nil)))
      (pssc_cons (psc_if (ptc_not (ptc_val (pec_call (ok__law_same A) (hr.mono (by decide)) (pac_cons (pec_tup (pac_cons (pec_call (ok_signed A) (hr.mono (by decide)) (pac_cons (pec_var (i := 1)) (pac_cons (pec_var (i := 8)) (pac_cons (pec_var (i := 9)) (pac_cons (pec_var (i := 11)) pac_nil))))) (pac_cons (pec_call (ok_holds A) (hr.mono (by decide)) (pac_cons (pec_var (i := 1)) (pac_cons (pec_var (i := 3)) (pac_cons (pec_var (i := 10)) (pac_cons (pec_tup (pac_cons (pec_item (k := 0) (pec_var (i := 12))) (pac_cons (pec_item (k := 1) (pec_var (i := 12))) pac_nil))) pac_nil))))) pac_nil))) (pac_cons (pec_tup (pac_cons (pec_tup (pac_cons (pec_item (k := 0) (pec_var (i := 13))) (pac_cons (pec_item (k := 1) (pec_var (i := 13))) pac_nil))) (pac_cons pec_bl pac_nil))) pac_nil))))) (pssc_one (psc_ret pec_bl)) pssc_nil)
      (pssc_cons (psc_set (i := 4) sc__law_told_right.nd (pec_ifExp (pte_eq hr.units (pec_item (k := 2) (pec_var (i := 12))) (pec_item (k := 2) (pec_var (i := 13)))) pec_non (pec_var (i := 8))))
      (pssc_cons (psc_if (ptc_not (ptc_val (pec_call (ok__law_same A) (hr.mono (by decide)) (pac_cons (pec_call (ok_key_of A) (hr.mono (by decide)) (pac_cons (pec_var (i := 1)) (pac_cons (pec_item (k := 0) (pec_var (i := 12))) (pac_cons (pec_var (i := 3)) (pac_cons (pec_var (i := 10)) (pac_cons (pec_item (k := 1) (pec_var (i := 12))) (pac_cons (pec_var (i := 11)) (pac_cons (pec_item (k := 1) (pec_var (i := 13))) pac_nil)))))))) (pac_cons (pec_var (i := 4)) pac_nil))))) (pssc_one (psc_ret pec_bl)) pssc_nil)
      (pssc_cons (psc_if (ptc_not (ptc_val (pec_call (ok__law_same A) (hr.mono (by decide)) (pac_cons (pec_callK (ks := ["other_s", "other_text", "s", "text", "public", "first", "ground"]) (ok_key_of A) (hr.mono (by decide)) (A.fn 43 (d := dd "key_of" 64)).choose_spec (A.glo 43) [6, 5, 4, 3, 2, 1, 0] rfl (by intro _ _ _ _ _ _ ws hl; match ws, hl with | [_, _, _, _, _, _, _], _ => rfl) (pkc_cons (pec_item (k := 1) (pec_var (i := 12))) (pkc_cons (pec_var (i := 10)) (pkc_cons (pec_item (k := 1) (pec_var (i := 13))) (pkc_cons (pec_var (i := 11)) (pkc_cons (pec_var (i := 3)) (pkc_cons (pec_item (k := 0) (pec_var (i := 13))) (pkc_cons (pec_var (i := 1)) pkc_nil)))))))) (pac_cons (pec_var (i := 4)) pac_nil))))) (pssc_one (psc_ret pec_bl)) pssc_nil)
      (pssc_cons (psc_if (ptc_not (ptc_val (pec_call (ok__law_same A) (hr.mono (by decide)) (pac_cons (pec_call (ok_key_of A) (hr.mono (by decide)) (pac_cons (pec_var (i := 1)) (pac_cons (pec_item (k := 0) (pec_var (i := 12))) (pac_cons (pec_var (i := 3)) (pac_cons (pec_var (i := 10)) (pac_cons (pec_item (k := 1) (pec_var (i := 12))) (pac_cons (pec_var (i := 10)) (pac_cons (pec_item (k := 1) (pec_var (i := 12))) pac_nil)))))))) (pac_cons pec_non pac_nil))))) (pssc_one (psc_ret pec_bl)) pssc_nil)
      (pssc_cons (psc_if (PWc.pt (pwc_and (pte_notN (pec_var (i := 4))) (pwc_and1 (ptc_not (ptc_val (pec_call (ok__law_same A) (hr.mono (by decide)) (pac_cons (pec_call (ok_open_key A) (hr.mono (by decide)) (pac_cons (pec_var (i := 1)) (pac_cons (pec_var (i := 8)) pac_nil))) (pac_cons (pec_var (i := 3)) pac_nil)))))))) (pssc_one (psc_ret pec_bl)) pssc_nil)
      (pssc_one (psc_ret (pec_or (pec_gt (pec_var (i := 7)) pec_int) (pec_one (pec_call (ok__law_same A) (hr.mono (by decide)) (pac_cons (pec_call (ok_multiple_of A) (hr.mono (by decide)) (pac_cons (pec_var (i := 5)) (pac_cons (pec_var (i := 6)) (pac_cons (pec_var (i := 7)) (pac_cons (pec_var (i := 3)) pac_nil))))) (pac_cons (pec_var (i := 8)) pac_nil)))))))))))))))))), ?_⟩
    have h2 := h.hn.pr.1
    have hb := h.hb.h
    refine ⟨rfl, h.n, rfl, ⟨h2, hb⟩, fun k hk => ⟨h.n, rfl, ⟨h2, hb⟩, fun o ho => ?_⟩⟩
    refine ⟨_, a, b, rfl, hab, fun t1 t2 l1 l2 => ⟨rfl, h.V, h.B, k, rfl, by omega, ?_⟩⟩
    refine ⟨h, nm k h.B, k, o, t1, rfl, ⟨by omega, by omega, by omega⟩, h, nm k h.B, k, o, t2, rfl, ⟨by omega, by omega, by omega⟩, ?_⟩
    have w1 := wt_lt h (nm o h.B) (nm k h.B) t1
    have w2 := wt_lt h (nm o h.B) (nm k h.B) t2
    have s1 : (o + wt h (nm o h.B) (nm k h.B) t1 * k) % h.n < h.n := Nat.mod_lt _ (by omega)
    have s2 : (o + wt h (nm o h.B) (nm k h.B) t2 * k) % h.n < h.n := Nat.mod_lt _ (by omega)
    refine ⟨h, k, o, t2, rfl, ⟨by omega, by omega, by omega⟩, rfl, h, nm k h.B, t1, nm o h.B, _, rfl, ⟨s1, by omega⟩, rfl, rfl, rfl, ?_⟩
    refine same_mk ?_ (pure2 (pure2 (pure_encP _ _) (pure_int _ _)) (pure_bl _ _)) ⟨(fun h => nomatch h), fun _ => ?_⟩
    · rw [decide_eq_true (sig_ok h k o _)]
    dsimp only [dNext]
    have ke := key_ok h k o t1 t2 hk (nm o h.B) (nm k h.B)
    have ke2 := key_ok h k o t2 t1 hk (nm o h.B) (nm k h.B)
    refine dseq_mid (ts := dSet _ _) (us := dSeq _ _) (fun ρ => ρ = [.d .deal, .d (encH h), .d (.tup [.str a, .str b]), .d (encP (nm k h.B).1), .d (if wt h (nm o h.B) (nm k h.B) t1 = wt h (nm o h.B) (nm k h.B) t2 then .non else .int k), .d (encC h.V), .d (encP h.B.1), .d (.int h.n), .d (.int k), .d (.int o), .d (.str t1), .d (.str t2),
      .d (.lst [encP (nm o h.B).1, .int ((o + wt h (nm o h.B) (nm k h.B) t1 * k) % h.n : Nat), .int (wt h (nm o h.B) (nm k h.B) t1 : Nat)]), .d (.lst [encP (nm o h.B).1, .int ((o + wt h (nm o h.B) (nm k h.B) t2 * k) % h.n : Nat), .int (wt h (nm o h.B) (nm k h.B) t2 : Nat)])]) ?_ ?_
    · intro nx hnx
      refine ⟨fun hb => hnx _ ?_, fun hb => hnx _ ?_⟩
      · have e : wt h (nm o h.B) (nm k h.B) t1 = wt h (nm o h.B) (nm k h.B) t2 := by have := of_decide_eq_true hb; omega
        rw [if_pos e]; rfl
      · have e : wt h (nm o h.B) (nm k h.B) t1 ≠ wt h (nm o h.B) (nm k h.B) t2 := by have := of_decide_eq_false hb; omega
        rw [if_neg e]; rfl
    · rintro ρ rfl
      generalize hd : (if wt h (nm o h.B) (nm k h.B) t1 = wt h (nm o h.B) (nm k h.B) t2 then D.non else .int k) = due at ke
      have pd : ∀ n, pureN n due := fun n => by
        rw [← hd]
        by_cases e : wt h (nm o h.B) (nm k h.B) t1 = wt h (nm o h.B) (nm k h.B) t2
        · rw [if_pos e]; exact pure_non n
        · rw [if_neg e]; exact pure_int _ n
      have no : notOpq due = true := by
        rw [← hd]
        by_cases e : wt h (nm o h.B) (nm k h.B) t1 = wt h (nm o h.B) (nm k h.B) t2
        · rw [if_pos e]; rfl
        · rw [if_neg e]; rfl
      have ke3 : keyD h (nm o h.B) (nm k h.B) t2 ((o + wt h (nm o h.B) (nm k h.B) t2 * k) % h.n) t1 ((o + wt h (nm o h.B) (nm k h.B) t1 * k) % h.n) = due := by
        rw [ke2, ← hd]
        by_cases e : wt h (nm o h.B) (nm k h.B) t1 = wt h (nm o h.B) (nm k h.B) t2
        · rw [if_pos e, if_pos e.symm]
        · rw [if_neg e, if_neg (fun q => e q.symm)]
      refine ⟨h, nm o h.B, nm k h.B, t1, _, t2, _, rfl, ⟨by omega, by omega, s1, s2⟩, same_mk ke (pd _) ⟨(fun h => nomatch h), fun _ => ?_⟩⟩
      refine ⟨rfl, h, nm o h.B, nm k h.B, t2, _, t1, _, rfl, ⟨by omega, by omega, s2, s1⟩, same_mk ke3 (pd _) ⟨(fun h => nomatch h), fun _ => ?_⟩⟩
      refine ⟨h, nm o h.B, nm k h.B, t1, _, t1, _, rfl, ⟨by omega, by omega, s1, s1⟩, same_mk (if_pos rfl) (pure_non _) ⟨(fun h => nomatch h), fun _ => ?_⟩⟩
      have fin : (dRet (dOrV (dOp (II0 fun i j => .bl (decide (j < i))) (dVar 7) (dC (.int 2000))) (dCall sp__law_same (dCons (dCall sp_multiple_of (dCons (dVar 5) (dCons (dVar 6) (dCons (dVar 7) (dCons (dVar 3) dNil))))) (dCons (dVar 8) dNil))))) ⟨fun _ => Qd .non, Qd, fun _ => False, fun _ => False⟩ [.d .deal, .d (encH h), .d (.tup [.str a, .str b]), .d (encP (nm k h.B).1), .d (due), .d (encC h.V), .d (encP h.B.1), .d (.int h.n), .d (.int k), .d (.int o), .d (.str t1), .d (.str t2),
      .d (.lst [encP (nm o h.B).1, .int ((o + wt h (nm o h.B) (nm k h.B) t1 * k) % h.n : Nat), .int (wt h (nm o h.B) (nm k h.B) t1 : Nat)]), .d (.lst [encP (nm o h.B).1, .int ((o + wt h (nm o h.B) (nm k h.B) t2 * k) % h.n : Nat), .int (wt h (nm o h.B) (nm k h.B) t2 : Nat)])] := by
        refine ⟨fun hb => ?_, fun hb => ⟨h, k, rfl, ⟨?_, hk⟩, same_mk rfl (pure_int _ _) hq⟩⟩
        · exact hq
        · have := of_decide_eq_false hb; omega
      refine ⟨no, fun _ => ⟨h, k, rfl, by omega, same_mk rfl (pure_encP _ _) ⟨(fun h => nomatch h), fun _ => fin⟩⟩, fun _ => ⟨(fun h => nomatch h), fun _ => fin⟩⟩
/-! _law_equal: slots 0 home, 1 lock, 2 talk, 3 cubic, 4 start, 5 order, 6 head, 7 weight, 8 tail -/
def sp__law_equal : Spd := fun ds Q => ∃ (h : Hm) (O F : G h.V.C) (m k : Nat), ds = [encH h, encP O.1, .tup [encP F.1, .int m, .int k]] ∧ (m < 2 ^ 200 ∧ k < 2 ^ 200) ∧ Q (.bl (decide (nm k h.B = F + nm m O)))
theorem sc__law_equal : FnScope ["home", "lock", "talk", "cubic", "start", "order", "head", "weight", "tail"] ["home", "lock", "talk"] (defScope (top 112)) := ⟨rfl, rfl, rfl, by decide +kernel, rfl, by decide +kernel, by decide +kernel⟩
theorem ok__law_equal (A : Kt K mg base) : FnAt P w K mg base 4 "_law_equal" ["home", "lock", "talk"] sp__law_equal := by
  obtain ⟨fd, F⟩ := A.fn 89 (d := dd "_law_equal" 112)
  refine fn_mk (A.glo 89) F sc__law_equal (by decide) (fun _ _ _ _ _ _ us hl => match us, hl with | [_, _, _], _ => rfl) ?_ ?_
  · intro ds Q h
    obtain ⟨h, O, F, m, k, rfl, hk, hq⟩ := h
    rfl
  · intro E cdv A' outer s H Ex ds Qd hr h
    obtain ⟨h, O, F, m, k, rfl, hk, hq⟩ := h
    refine ⟨_, (pssc_cons (psc_asg (pec_var (i := 0)) (pgc_tup rfl (pgsc_cons (pgc_name (i := 3) sc__law_equal.nd) (pgsc_cons (pgc_name (i := 4) sc__law_equal.nd) (pgsc_cons (pgc_name (i := 5) sc__law_equal.nd) pgsc_nil)))))
      (pssc_cons (psc_asg (pec_var (i := 2)) (pgc_tup rfl (pgsc_cons (pgc_name (i := 6) sc__law_equal.nd) (pgsc_cons (pgc_name (i := 7) sc__law_equal.nd) (pgsc_cons (pgc_name (i := 8) sc__law_equal.nd) pgsc_nil)))))
      (pssc_one (psc_ret (pec_eq hr.units (pec_call (ok__law_times A) (hr.mono (by decide)) (pac_cons (pec_var (i := 3)) (pac_cons (pec_var (i := 4)) (pac_cons (pec_var (i := 8)) pac_nil)))) (pec_call (ok__law_sum A) (hr.mono (by decide)) (pac_cons (pec_var (i := 3)) (pac_cons (pec_var (i := 6)) (pac_cons (pec_call (ok__law_times A) (hr.mono (by decide)) (pac_cons (pec_var (i := 3)) (pac_cons (pec_var (i := 1)) (pac_cons (pec_var (i := 7)) pac_nil)))) pac_nil))))))))), ?_⟩
    refine ⟨rfl, rfl, h.V, h.B, k, rfl, hk.2, h.V, O, m, rfl, hk.1, h.V, F, nm m O, rfl, ?_⟩
    refine eq_encP (f := id) ?_
    show Qd (.bl (decide _))
    rw [dec_g]; exact hq
/-! _law_honest: slots 0 home, 1 secret, 2 once, 3 weight -/
def sp__law_honest : Spd := fun ds Q => ∃ (h : Hm) (k o m : Nat), ds = [encH h, .int k, .int o, .int m] ∧ (k < 2 ^ 61 ∧ o < 2 ^ 61 ∧ m < 2 ^ 61) ∧ Q (.tup [encP (nm o h.B).1, .int m, .int ((o + m * k) % h.n : Nat)])
theorem sc__law_honest : FnScope ["home", "secret", "once", "weight"] ["home", "secret", "once", "weight"] (defScope (top 113)) := ⟨rfl, rfl, rfl, by decide +kernel, rfl, by decide +kernel, by decide +kernel⟩
theorem ok__law_honest (A : Kt K mg base) : FnAt P w K mg base 4 "_law_honest" ["home", "secret", "once", "weight"] sp__law_honest := by
  obtain ⟨fd, F⟩ := A.fn 90 (d := dd "_law_honest" 113)
  refine fn_mk (A.glo 90) F sc__law_honest (by decide) (fun _ _ _ _ _ _ us hl => match us, hl with | [_, _, _, _], _ => rfl) ?_ ?_
  · intro ds Q h
    obtain ⟨h, k, o, m, rfl, hk, hq⟩ := h
    rfl
  · intro E cdv A' outer s H Ex ds Qd hr h
    obtain ⟨h, k, o, m, rfl, hk, hq⟩ := h
    refine ⟨_, (pssc_one (psc_ret (pec_tup (pac_cons (pec_call (ok__law_times A) (hr.mono (by decide)) (pac_cons (pec_item (k := 0) (pec_var (i := 0))) (pac_cons (pec_item (k := 1) (pec_var (i := 0))) (pac_cons (pec_var (i := 2)) pac_nil)))) (pac_cons (pec_var (i := 3)) (pac_cons (pec_mod (pec_intc (A.free 99) (pac_cons (pec_addI (pec_var (i := 2)) (pec_mul (pec_var (i := 3)) (pec_var (i := 1)))) pac_nil)) (pec_item (k := 2) (pec_var (i := 0)))) pac_nil)))))), ?_⟩
    obtain ⟨h1, h2, h3⟩ := hk
    haveI : Sz 61 ((k : Nat) : Int) := ⟨by omega⟩
    haveI : Sz 61 ((m : Nat) : Int) := ⟨by omega⟩
    refine ⟨h.V, h.B, o, rfl, by omega, cmW, ppos h.n, rfl, ?_⟩
    have e : (((o : Nat) : Int) + m * k) % (h.n : Int) = (((o + m * k) % h.n : Nat) : Int) := by
      rw [Int.natCast_emod, Int.natCast_add, Int.natCast_mul]
    show Qd (.tup [_, _, .int ((((o : Nat) : Int) + m * k) % (h.n : Int))])
    rw [e]; exact hq
/-! _law_changed: slots 0 deal, 1 home, 2 lock, 3 talk, 4 lead, 5 kind, 6 cubic, 7 start, 8 order, 9 head, 10 weight, 11 tail -/
def sp__law_changed : Spd := fun ds Q => ∃ (h : Hm) (O F : G h.V.C) (m k : Nat) (L : G h.V.C), ds = [.deal, encH h, encP O.1, .tup [encP F.1, .int m, .int k], encP L.1] ∧ (m < h.n ∧ k < h.n) ∧ ∀ (O F : G h.V.C) (m k : Nat), m < h.n → k < h.n → Q (.lst [encP O.1, .tup [encP F.1, .int m, .int k]])
theorem sc__law_changed : FnScope ["deal", "home", "lock", "talk", "lead", "kind", "cubic", "start", "order", "head", "weight", "tail"] ["deal", "home", "lock", "talk", "lead"] (defScope (top 114)) := ⟨rfl, rfl, rfl, by decide +kernel, rfl, by decide +kernel, by decide +kernel⟩
theorem ok__law_changed (A : Kt K mg base) : FnAt P w K mg base 5 "_law_changed" ["deal", "home", "lock", "talk", "lead"] sp__law_changed := by
  obtain ⟨fd, F⟩ := A.fn 91 (d := dd "_law_changed" 114)
  refine fn_mk (A.glo 91) F sc__law_changed (by decide) (fun _ _ _ _ _ _ us hl => match us, hl with | [_, _, _, _, _], _ => rfl) ?_ ?_
  · intro ds Q h
    obtain ⟨h, O, F, m, k, L, rfl, hk, hq⟩ := h
    rfl
  · intro E cdv A' outer s H Ex ds Qd hr h
    obtain ⟨h, O, F, m, k, L, rfl, hk, hq⟩ := h
    refine ⟨_, (pssc_cons (psc_asg (pec_var (i := 1)) (pgc_tup rfl (pgsc_cons (pgc_name (i := 6) sc__law_changed.nd) (pgsc_cons (pgc_name (i := 7) sc__law_changed.nd) (pgsc_cons (pgc_name (i := 8) sc__law_changed.nd) pgsc_nil)))))
      (pssc_cons (psc_asg (pec_var (i := 3)) (pgc_tup rfl (pgsc_cons (pgc_name (i := 9) sc__law_changed.nd) (pgsc_cons (pgc_name (i := 10) sc__law_changed.nd) (pgsc_cons (pgc_name (i := 11) sc__law_changed.nd) pgsc_nil)))))
      (pssc_cons (psc_set (i := 5) sc__law_changed.nd (pec_call (ok__law_any A) (hr.mono (by decide)) (pac_cons (pec_var (i := 0)) (pac_cons pec_int pac_nil))))
      (pssc_cons (psc_if (pte_eq hr.units (pec_var (i := 5)) pec_int) (pssc_one (psc_ret (pec_lst (pac_cons (pec_var (i := 2)) (pac_cons (pec_tup (pac_cons (pec_var (i := 9)) (pac_cons (pec_mod (pec_intc (A.free 99) (pac_cons (pec_addI (pec_addI (pec_var (i := 10)) pec_int) (pec_call (ok__law_any A) (hr.mono (by decide)) (pac_cons (pec_var (i := 0)) (pac_cons (pec_sub (pec_var (i := 8)) pec_int) pac_nil)))) pac_nil)) (pec_var (i := 8))) (pac_cons (pec_var (i := 11)) pac_nil)))) pac_nil))))) pssc_nil)
      (pssc_cons (psc_if (pte_eq hr.units (pec_var (i := 5)) pec_int) (pssc_one (psc_ret (pec_lst (pac_cons (pec_var (i := 2)) (pac_cons (pec_tup (pac_cons (pec_var (i := 9)) (pac_cons (pec_var (i := 10)) (pac_cons (pec_mod (pec_intc (A.free 99) (pac_cons (pec_addI (pec_addI (pec_var (i := 11)) pec_int) (pec_call (ok__law_any A) (hr.mono (by decide)) (pac_cons (pec_var (i := 0)) (pac_cons (pec_sub (pec_var (i := 8)) pec_int) pac_nil)))) pac_nil)) (pec_var (i := 8))) pac_nil)))) pac_nil))))) pssc_nil)
      (pssc_cons (psc_if (pte_eq hr.units (pec_var (i := 5)) pec_int) (pssc_one (psc_ret (pec_lst (pac_cons (pec_var (i := 2)) (pac_cons (pec_tup (pac_cons (pec_call (ok__law_of A) (hr.mono (by decide)) (pac_cons (pec_var (i := 0)) (pac_cons (pec_lst (pac_cons (pec_tup pac_nil) (pac_cons (pec_var (i := 4)) (pac_cons (pec_call (ok__law_facing A) (hr.mono (by decide)) (pac_cons (pec_var (i := 6)) (pac_cons (pec_var (i := 9)) pac_nil))) (pac_cons (pec_call (ok__law_sum A) (hr.mono (by decide)) (pac_cons (pec_var (i := 6)) (pac_cons (pec_var (i := 9)) (pac_cons (pec_var (i := 7)) pac_nil)))) pac_nil))))) pac_nil))) (pac_cons (pec_var (i := 10)) (pac_cons (pec_var (i := 11)) pac_nil)))) pac_nil))))) pssc_nil)
      (pssc_cons (psc_if (pte_eq hr.units (pec_var (i := 5)) pec_int) (pssc_one (psc_ret (pec_lst (pac_cons (pec_call (ok__law_of A) (hr.mono (by decide)) (pac_cons (pec_var (i := 0)) (pac_cons (pec_lst (pac_cons (pec_tup pac_nil) (pac_cons (pec_var (i := 4)) (pac_cons (pec_call (ok__law_facing A) (hr.mono (by decide)) (pac_cons (pec_var (i := 6)) (pac_cons (pec_var (i := 2)) pac_nil))) (pac_cons (pec_call (ok__law_sum A) (hr.mono (by decide)) (pac_cons (pec_var (i := 6)) (pac_cons (pec_var (i := 2)) (pac_cons (pec_var (i := 7)) pac_nil)))) pac_nil))))) pac_nil))) (pac_cons (pec_var (i := 3)) pac_nil))))) pssc_nil)
      (pssc_cons (psc_if (pte_eq hr.units (pec_var (i := 5)) pec_int) (pssc_one (psc_ret (pec_lst (pac_cons (pec_var (i := 2)) (pac_cons (pec_tup (pac_cons (pec_var (i := 9)) (pac_cons (pec_var (i := 11)) (pac_cons (pec_var (i := 10)) pac_nil)))) pac_nil))))) pssc_nil)
      (pssc_cons (psc_if (pte_eq hr.units (pec_var (i := 5)) pec_int) (pssc_one (psc_ret (pec_lst (pac_cons (pec_var (i := 2)) (pac_cons (pec_tup (pac_cons (pec_call (ok__law_sum A) (hr.mono (by decide)) (pac_cons (pec_var (i := 6)) (pac_cons (pec_var (i := 9)) (pac_cons (pec_var (i := 7)) pac_nil)))) (pac_cons (pec_var (i := 10)) (pac_cons (pec_mod (pec_intc (A.free 99) (pac_cons (pec_addI (pec_var (i := 11)) pec_int) pac_nil)) (pec_var (i := 8))) pac_nil)))) pac_nil))))) pssc_nil)
      (pssc_one (psc_ret (pec_lst (pac_cons (pec_var (i := 2)) (pac_cons (pec_tup (pac_cons (pec_var (i := 9)) (pac_cons (pec_mod (pec_intc (A.free 99) (pac_cons (pec_neg (pec_var (i := 10))) pac_nil)) (pec_var (i := 8))) (pac_cons (pec_mod (pec_intc (A.free 99) (pac_cons (pec_neg (pec_var (i := 11))) pac_nil)) (pec_var (i := 8))) pac_nil)))) pac_nil)))))))))))))), ?_⟩
    obtain ⟨hm, hk⟩ := hk
    have h2 := h.hn.pr.1
    have hb := h.hb.h
    have md : ∀ x : Int, ∃ r : Nat, x % (h.n : Int) = (r : Nat) ∧ r < h.n := fun x => by
      have a := Int.emod_nonneg x (show ((h.n : Nat) : Int) ≠ 0 by omega)
      have b := Int.emod_lt_of_pos x (show (0 : Int) < (h.n : Nat) by omega)
      exact ⟨(x % (h.n : Int)).toNat, by omega, by omega⟩
    have e1 : ((h.n : Nat) : Int) - 1 = ((h.n - 1 : Nat) : Int) := by omega
    have four : ∀ (Y : G h.V.C) (R : D → Prop), (∀ Z : G h.V.C, R (encP Z.1)) → ∀ x ∈ [D.tup [], encP L.1, encP (-Y).1, encP (Y + h.B).1], R x := fun Y R hR x hx => by
      simp only [List.mem_cons, List.not_mem_nil, or_false] at hx
      rcases hx with rfl | rfl | rfl | rfl
      · exact hR 0
      · exact hR L
      · exact hR (-Y)
      · exact hR (Y + h.B)
    refine ⟨rfl, rfl, 7, rfl, ⟨by decide, by decide⟩, fun kind _ => ⟨fun _ => ?_, fun _ => ⟨fun _ => ?_, fun _ => ⟨fun _ => ?_, fun _ => ⟨fun _ => ?_, fun _ => ⟨fun _ => ?_, fun _ => ⟨fun _ => ?_, fun _ => ?_⟩⟩⟩⟩⟩⟩⟩
    · refine ⟨h.n - 1, ?_, ⟨by omega, by omega⟩, fun r _ => ⟨ppos h.n, rfl, rfl, ?_⟩⟩
      · show [_, D.int (((h.n : Nat) : Int) - 1)] = _
        rw [e1]
      · obtain ⟨x, ex, hx⟩ := md (((m : Nat) : Int) + 1 + (r : Nat))
        show Qd (.lst [_, .tup [_, .int ((((m : Nat) : Int) + 1 + (r : Nat)) % (h.n : Int)), _]])
        rw [ex]; exact hq O F x k hx hk
    · refine ⟨h.n - 1, ?_, ⟨by omega, by omega⟩, fun r _ => ⟨ppos h.n, rfl, rfl, ?_⟩⟩
      · show [_, D.int (((h.n : Nat) : Int) - 1)] = _
        rw [e1]
      · obtain ⟨x, ex, hx⟩ := md (((k : Nat) : Int) + 1 + (r : Nat))
        show Qd (.lst [_, .tup [_, _, .int ((((k : Nat) : Int) + 1 + (r : Nat)) % (h.n : Int))]])
        rw [ex]; exact hq O F m x hm hx
    · exact ⟨rfl, h.V, F, rfl, h.V, F, h.B, rfl, rfl, _, rfl, ⟨by simp, by simp⟩, four F _ fun Z => ⟨rfl, rfl, hq O Z m k hm hk⟩⟩
    · exact ⟨rfl, h.V, O, rfl, h.V, O, h.B, rfl, rfl, _, rfl, ⟨by simp, by simp⟩, four O _ fun Z => ⟨rfl, hq Z F m k hm hk⟩⟩
    · exact ⟨rfl, rfl, hq O F k m hk hm⟩
    · refine ⟨h.V, F, h.B, rfl, ppos h.n, rfl, rfl, ?_⟩
      obtain ⟨x, ex, hx⟩ := md (((k : Nat) : Int) + 1)
      show Qd (.lst [_, .tup [_, _, .int ((((k : Nat) : Int) + 1) % (h.n : Int))]])
      rw [ex]; exact hq O (F + h.B) m x hm hx
    · refine ⟨ppos h.n, ppos h.n, rfl, rfl, ?_⟩
      obtain ⟨x, ex, hx⟩ := md (-((m : Nat) : Int))
      obtain ⟨y, ey, hy⟩ := md (-((k : Nat) : Int))
      show Qd (.lst [_, .tup [_, .int ((-((m : Nat) : Int)) % (h.n : Int)), .int ((-((k : Nat) : Int)) % (h.n : Int))]])
      rw [ex, ey]; exact hq O F x y hx hy
section
variable {V : Cv}
theorem g_sub {X Y Z : G V.C} (h : X = Y + Z) : X + -Z = Y := by rw [h, gadd_assoc, gadd_neg, gadd_zero]
theorem g_back (X Z : G V.C) : X = X + -Z + Z := by rw [gadd_assoc, gneg_add, gadd_zero]
theorem g_both {T S' O L K' : G V.C} (hs : S' = O + K') : T + S' = T + -L + O + (L + K') := by
  rw [hs]
  have e : T + -L + O + (L + K') = T + (-L + L) + (O + K') := by
    simp only [gadd_assoc]
    rw [gadd_left_comm O L K']
  rw [e, gneg_add, gadd_zero]
end
theorem dec_true {p : Prop} {inst : Decidable p} (h : p) : @decide p inst = true := by
  cases inst with
  | isTrue _ => rfl
  | isFalse n => exact absurd h n
end
end K75
set_option Elab.async false
set_option linter.all false
set_option maxRecDepth 100000
set_option maxHeartbeats 1000000
namespace K75
open PySem PySem.Spec PyProof.Rows L2 Cc Ec
section
variable {P : Program} {w : World} {K : PySem.W.Frag} {mg : Str → Option Value} {base : Heap}
/-! _law_talks_right: slots 0 deal, 1 home, 2 lead, 3 many, 4 turn, 5 tail, 6 head, 7 both, 8 cubic, 9 start, 10 order, 11 secret, 12 weight, 13 lock, 14 talk, 15 question, 16 due -/
def sp__law_talks_right : Spd := fun ds Q => ∃ (h : Hm) (L : G h.V.C) (many : Nat), ds = [.deal, encH h, encP L.1, .int many] ∧ many ≤ 100 ∧ Q (.bl true)
theorem sc__law_talks_right : FnScope ["deal", "home", "lead", "many", "turn", "tail", "head", "both", "cubic", "start", "order", "secret", "weight", "lock", "talk", "question", "due"] ["deal", "home", "lead", "many"] (defScope (top 115)) := ⟨rfl, rfl, rfl, by decide +kernel, rfl, by decide +kernel, by decide +kernel⟩
theorem ok__law_talks_right (A : Kt K mg base) : FnAt P w K mg base 8 "_law_talks_right" ["deal", "home", "lead", "many"] sp__law_talks_right := by
  obtain ⟨fd, F⟩ := A.fn 92 (d := dd "_law_talks_right" 115)
  refine fn_mk (A.glo 92) F sc__law_talks_right (by decide) (fun _ _ _ _ _ _ us hl => match us, hl with | [_, _, _, _], _ => rfl) ?_ ?_
  · intro ds Q h
    obtain ⟨h, L, many, rfl, hm, hq⟩ := h
    rfl
  · intro E cdv A' outer s H Ex ds Qd hr h
    obtain ⟨h, L, many, rfl, hm, hq⟩ := h
    refine ⟨_, (pssc_cons (psc_asg (pec_var (i := 1)) (pgc_tup rfl (pgsc_cons (pgc_name (i := 8) sc__law_talks_right.nd) (pgsc_cons (pgc_name (i := 9) sc__law_talks_right.nd) (pgsc_cons (pgc_name (i := 10) sc__law_talks_right.nd) pgsc_nil)))))
      (pssc_cons (psc_par (i := 11) (j := 12) rfl sc__law_talks_right.nd (pac_cons (pec_call (ok__law_secret A) (hr.mono (by decide)) (pac_cons (pec_var (i := 0)) (pac_cons (pec_var (i := 10)) pac_nil))) (pac_cons (pec_call (ok__law_secret A) (hr.mono (by decide)) (pac_cons (pec_var (i := 0)) (pac_cons (pec_var (i := 10)) pac_nil))) pac_nil)))
      (pssc_cons (psc_par (i := 13) (j := 14) rfl sc__law_talks_right.nd (pac_cons (pec_call (ok__law_times A) (hr.mono (by decide)) (pac_cons (pec_var (i := 8)) (pac_cons (pec_var (i := 9)) (pac_cons (pec_var (i := 11)) pac_nil)))) (pac_cons (pec_call (ok__law_honest A) (hr.mono (by decide)) (pac_cons (pec_var (i := 1)) (pac_cons (pec_var (i := 11)) (pac_cons (pec_call (ok__law_secret A) (hr.mono (by decide)) (pac_cons (pec_var (i := 0)) (pac_cons (pec_var (i := 10)) pac_nil))) (pac_cons (pec_var (i := 12)) pac_nil))))) pac_nil)))
      (pssc_cons (psc_if (ptc_not (ptc_val (pec_call (ok__law_same A) (hr.mono (by decide)) (pac_cons (pec_tup (pac_cons (pec_call (ok_talk_holds A) (hr.mono (by decide)) (pac_cons (pec_var (i := 1)) (pac_cons (pec_var (i := 13)) (pac_cons (pec_var (i := 14)) pac_nil)))) (pac_cons (pec_call (ok_made_up A) (hr.mono (by decide)) (pac_cons (pec_var (i := 1)) (pac_cons (pec_var (i := 13)) (pac_cons (pec_var (i := 12)) (pac_cons (pec_item (k := 2) (pec_var (i := 14))) pac_nil))))) pac_nil))) (pac_cons (pec_tup (pac_cons pec_bl (pac_cons (pec_var (i := 14)) pac_nil))) pac_nil))))) (pssc_one (psc_ret pec_bl)) pssc_nil)
      (pssc_cons (psc_forR1 .never rfl (A.free 103) (pac_cons (pec_var (i := 3)) pac_nil) (pgc_name (i := 4) sc__law_talks_right.nd) (pssc_cons (psc_set (i := 15) sc__law_talks_right.nd (pec_call (ok__law_changed A) (hr.mono (by decide)) (pac_cons (pec_var (i := 0)) (pac_cons (pec_var (i := 1)) (pac_cons (pec_var (i := 13)) (pac_cons (pec_var (i := 14)) (pac_cons (pec_var (i := 2)) pac_nil)))))))
      (pssc_cons (psc_set (i := 16) sc__law_talks_right.nd (pec_call (ok__law_equal A) (hr.mono (by decide)) (pac_cons (pec_var (i := 1)) (pac_cons (pec_item (k := 0) (pec_var (i := 15))) (pac_cons (pec_item (k := 1) (pec_var (i := 15))) pac_nil)))))
      (pssc_cons (psc_if (ptc_not (ptc_val (pec_call (ok__law_same A) (hr.mono (by decide)) (pac_cons (pec_call (ok_talk_holds A) (hr.mono (by decide)) (pac_cons (pec_var (i := 1)) (pac_cons (pec_item (k := 0) (pec_var (i := 15))) (pac_cons (pec_item (k := 1) (pec_var (i := 15))) pac_nil)))) (pac_cons (pec_var (i := 16)) pac_nil))))) (pssc_one (psc_ret pec_bl)) pssc_nil)
      (pssc_one (psc_if (PWc.pt (pwc_and (ptc_val (pec_var (i := 16))) (pwc_and1 (ptc_not (ptc_val (pec_call (ok__law_same A) (hr.mono (by decide)) (pac_cons (pec_call (ok_made_up A) (hr.mono (by decide)) (pac_cons (pec_var (i := 1)) (pac_cons (pec_item (k := 0) (pec_var (i := 15))) (pac_cons (pec_item (k := 1) (pec_item (k := 1) (pec_var (i := 15)))) (pac_cons (pec_item (k := 2) (pec_item (k := 1) (pec_var (i := 15)))) pac_nil))))) (pac_cons (pec_item (k := 1) (pec_var (i := 15))) pac_nil)))))))) (pssc_one (psc_ret pec_bl)) pssc_nil))))))
      (pssc_cons (psc_set (i := 5) sc__law_talks_right.nd (pec_call (ok__law_any A) (hr.mono (by decide)) (pac_cons (pec_var (i := 0)) (pac_cons (pec_var (i := 10)) pac_nil))))
      (pssc_cons (psc_set (i := 6) sc__law_talks_right.nd (pec_call (ok__law_sum A) (hr.mono (by decide)) (pac_cons (pec_var (i := 8)) (pac_cons (pec_call (ok__law_times A) (hr.mono (by decide)) (pac_cons (pec_var (i := 8)) (pac_cons (pec_var (i := 9)) (pac_cons (pec_var (i := 5)) pac_nil)))) (pac_cons (pec_call (ok__law_facing A) (hr.mono (by decide)) (pac_cons (pec_var (i := 8)) (pac_cons (pec_call (ok__law_times A) (hr.mono (by decide)) (pac_cons (pec_var (i := 8)) (pac_cons (pec_var (i := 2)) (pac_cons (pec_var (i := 12)) pac_nil)))) pac_nil))) pac_nil)))))
      (pssc_cons (psc_if (ptc_not (ptc_val (pec_call (ok__law_same A) (hr.mono (by decide)) (pac_cons (pec_callK (ks := ["s", "c", "public", "ground"]) (ok_made_up A) (hr.mono (by decide)) (A.fn 45 (d := dd "made_up" 66)).choose_spec (A.glo 45) [3, 2, 1, 0] rfl (by intro _ _ _ _ _ _ ws hl; match ws, hl with | [_, _, _, _], _ => rfl) (pkc_cons (pec_var (i := 5)) (pkc_cons (pec_var (i := 12)) (pkc_cons (pec_var (i := 2)) (pkc_cons (pec_var (i := 1)) pkc_nil))))) (pac_cons (pec_tup (pac_cons (pec_var (i := 6)) (pac_cons (pec_var (i := 12)) (pac_cons (pec_var (i := 5)) pac_nil)))) pac_nil))))) (pssc_one (psc_ret pec_bl)) pssc_nil)
      (pssc_cons (psc_if (ptc_not (ptc_val (pec_call (ok__law_same A) (hr.mono (by decide)) (pac_cons (pec_callK (ks := ["talk", "public", "ground"]) (ok_talk_holds A) (hr.mono (by decide)) (A.fn 44 (d := dd "talk_holds" 65)).choose_spec (A.glo 44) [2, 1, 0] rfl (by intro _ _ _ _ _ _ ws hl; match ws, hl with | [_, _, _], _ => rfl) (pkc_cons (pec_tup (pac_cons (pec_var (i := 6)) (pac_cons (pec_var (i := 12)) (pac_cons (pec_var (i := 5)) pac_nil)))) (pkc_cons (pec_var (i := 2)) (pkc_cons (pec_var (i := 1)) pkc_nil)))) (pac_cons pec_bl pac_nil))))) (pssc_one (psc_ret pec_bl)) pssc_nil)
      (pssc_cons (psc_set (i := 7) sc__law_talks_right.nd (pec_tup (pac_cons (pec_call (ok__law_sum A) (hr.mono (by decide)) (pac_cons (pec_var (i := 8)) (pac_cons (pec_var (i := 6)) (pac_cons (pec_item (k := 0) (pec_var (i := 14))) pac_nil)))) (pac_cons (pec_var (i := 12)) (pac_cons (pec_mod (pec_intc (A.free 99) (pac_cons (pec_addI (pec_var (i := 5)) (pec_item (k := 2) (pec_var (i := 14)))) pac_nil)) (pec_var (i := 10))) pac_nil)))))
      (pssc_one (psc_ret (pec_call (ok__law_same A) (hr.mono (by decide)) (pac_cons (pec_call (ok_talk_holds A) (hr.mono (by decide)) (pac_cons (pec_var (i := 1)) (pac_cons (pec_call (ok__law_sum A) (hr.mono (by decide)) (pac_cons (pec_var (i := 8)) (pac_cons (pec_var (i := 2)) (pac_cons (pec_var (i := 13)) pac_nil)))) (pac_cons (pec_var (i := 7)) pac_nil)))) (pac_cons pec_bl pac_nil))))))))))))))), ?_⟩
    have h2 := h.hn.pr.1
    have hb := h.hb.h
    refine ⟨rfl, h.n, rfl, ⟨h2, hb⟩, fun k hk => ⟨h.n, rfl, ⟨h2, hb⟩, fun w hw => ?_⟩⟩
    refine ⟨h.V, h.B, k, rfl, by omega, h.n, rfl, ⟨h2, hb⟩, fun o ho => ⟨h, k, o, w, rfl, ⟨by omega, by omega, by omega⟩, ?_⟩⟩
    have hs : (o + w * k) % h.n < h.n := Nat.mod_lt _ (by omega)
    have sg := sig_ok h k o w
    generalize hS : (o + w * k) % h.n = s1 at hs sg
    refine ⟨h, nm k h.B, nm o h.B, w, s1, rfl, ⟨by omega, by omega⟩, h, nm k h.B, w, s1, rfl, ⟨by omega, by omega⟩, rfl, rfl, ?_⟩
    refine same_mk ?_ (pure2 (pure_bl _ _) (pure3 (pure_encP _ _) (pure_int _ _) (pure_int _ _))) ⟨(fun h => nomatch h), fun _ => ?_⟩
    · rw [dec_true sg, g_sub sg]
    dsimp only [dNext]
    refine ⟨⟨by omega, by omega⟩, fun i ρ => ∃ s4 s15 s16, ρ = [.d .deal, .d (encH h), .d (encP L.1), .d (.int many), s4, .no, .no, .no, .d (encC h.V), .d (encP h.B.1), .d (.int h.n), .d (.int k), .d (.int w), .d (encP (nm k h.B).1), .d (.tup [encP (nm o h.B).1, .int w, .int s1]), s15, s16], ⟨_, _, _, rfl⟩, ?_, ?_⟩
    · rintro i ρ hi ⟨s4, s15, s16, rfl⟩
      refine ⟨h, nm k h.B, nm o h.B, w, s1, L, rfl, ⟨hw, hs⟩, fun O' F' m' k' hm' hk' => ?_⟩
      refine ⟨h, O', F', m', k', rfl, ⟨by omega, by omega⟩, h, O', F', m', k', rfl, ⟨by omega, by omega⟩, same_mk rfl (pure_bl _ _) ⟨(fun h => nomatch h), fun _ => ?_⟩⟩
      refine ⟨fun hb => ⟨h, O', m', k', rfl, ⟨by omega, by omega⟩, same_mk ?_ (pure3 (pure_encP _ _) (pure_int _ _) (pure_int _ _)) ⟨(fun h => nomatch h), fun _ => ⟨_, _, _, rfl⟩⟩⟩, fun _ => ⟨(fun h => nomatch h), fun _ => ⟨_, _, _, rfl⟩⟩⟩
      rw [g_sub (of_decide_eq_true hb)]
    · rintro ρ ⟨s4, s15, s16, rfl⟩
      refine ⟨h.n, rfl, ⟨by omega, by omega⟩, fun t ht => ?_⟩
      refine ⟨h.V, h.B, t, rfl, by omega, h.V, L, w, rfl, by omega, h.V, nm w L, rfl, h.V, nm t h.B, -nm w L, rfl, ?_⟩
      refine ⟨rfl, h, L, w, t, rfl, ⟨by omega, by omega⟩, rfl, same_mk rfl (pure3 (pure_encP _ _) (pure_int _ _) (pure_int _ _)) ⟨(fun h => nomatch h), fun _ => ?_⟩⟩
      refine ⟨rfl, rfl, h, L, nm t h.B + -nm w L, w, t, rfl, ⟨by omega, by omega⟩, same_mk ?_ (pure_bl _ _) ⟨(fun h => nomatch h), fun _ => ?_⟩⟩
      · rw [dec_true (g_back _ _)]
      refine ⟨h.V, nm t h.B + -nm w L, nm o h.B, rfl, ppos h.n, rfl, h.V, L, nm k h.B, rfl, ?_⟩
      have e : (((t : Nat) : Int) + (s1 : Nat)) % (h.n : Int) = (((t + s1) % h.n : Nat) : Int) := by
        rw [Int.natCast_emod, Int.natCast_add]
      have hlt : (t + s1) % h.n < h.n := Nat.mod_lt _ (by omega)
      refine ⟨h, L + nm k h.B, nm t h.B + -nm w L + nm o h.B, w, (t + s1) % h.n, ?_, ⟨by omega, by omega⟩, same_mk ?_ (pure_bl _ _) hq⟩
      · show [_, _, D.tup [_, _, .int ((((t : Nat) : Int) + (s1 : Nat)) % (h.n : Int))]] = _
        rw [e]
      · have g : nm ((t + s1) % h.n) h.B = nm t h.B + -nm w L + nm o h.B + nm w (L + nm k h.B) := by
          rw [nm_mod h.zero, nm_add, nm_dist]
          exact g_both sg
        rw [dec_true g]
end
end K75
set_option Elab.async false
set_option linter.all false
set_option maxRecDepth 100000
set_option maxHeartbeats 1000000
namespace K75
open PySem PySem.Spec PyProof.Rows L2 Cc Ec
section
variable {P : Program} {w : World} {K : PySem.W.Frag} {mg : Str → Option Value} {base : Heap}
/-- no divisor from 2 to below k -/
def noDiv (n k : Nat) : Prop := ∀ d, 2 ≤ d → d < k → ¬ d ∣ n
theorem pr_of {n k : Nat} (h2 : 2 ≤ n) (hk : noDiv n k) (hsq : n < k * k) : Pr n := by
  refine ⟨h2, fun d hd => ?_⟩
  by_cases h1 : d = 1
  · exact .inl h1
  by_cases hn : d = n
  · exact .inr hn
  exfalso
  have d0 : 0 < d := Nat.pos_of_dvd_of_pos hd (by omega)
  have hle := Nat.le_of_dvd (by omega) hd
  obtain ⟨e, he⟩ := hd
  have e2 : 2 ≤ e := by
    rcases Nat.lt_or_ge e 2 with q | q
    · exfalso
      have : e = 0 ∨ e = 1 := by omega
      rcases this with rfl | rfl <;> omega
    · exact q
  rcases Nat.lt_or_ge d k with q | q
  · exact hk d (by omega) q ⟨e, he⟩
  · rcases Nat.lt_or_ge e k with q2 | q2
    · exact hk e e2 q2 ⟨d, by rw [he, Nat.mul_comm]⟩
    · have := Nat.mul_le_mul q q2
      omega
theorem noDiv_succ {n k : Nat} (h : noDiv n k) (hk : ¬ k ∣ n) : noDiv n (k + 1) := fun d h1 h2 hd => by
  rcases Nat.lt_or_ge d k with q | q
  · exact h d h1 q hd
  · have : d = k := by omega
    subst this
    exact hk hd
theorem not_pr {n d : Nat} (h2 : 2 ≤ d) (hsq : d * d ≤ n) (hd : d ∣ n) : ¬ Pr n := fun h => by
  rcases h.2 d hd with q | q
  · omega
  · subst q
    have := Nat.mul_le_mul_right d h2
    omega
theorem pr_div {n d : Nat} (h2 : 2 ≤ d) (h : noDiv n d) (hd : d ∣ n) : Pr d := ⟨h2, fun e he => by
  by_cases h1 : e = 1
  · exact .inl h1
  have e0 : 0 < e := Nat.pos_of_dvd_of_pos he (by omega)
  have hle := Nat.le_of_dvd (by omega) he
  rcases Nat.lt_or_ge e d with q | q
  · exact absurd (Nat.dvd_trans he hd) (h e (by omega) q)
  · exact .inr (by omega)⟩
theorem dvd_of_mod {n d : Nat} (h : ((n : Nat) : Int) % ((d : Nat) : Int) = 0) : d ∣ n := by
  have : ((n % d : Nat) : Int) = 0 := by rw [Int.natCast_emod]; exact h
  exact Nat.dvd_of_mod_eq_zero (by omega)
theorem mod_of_dvd {n d : Nat} (h : d ∣ n) : ((n : Nat) : Int) % ((d : Nat) : Int) = 0 := by
  rw [← Int.natCast_emod, Nat.mod_eq_zero_of_dvd h]; rfl
/-! _law_is_prime: slots 0 often, 1 divisor -/
def sp__law_is_prime : Spd := fun ds Q => ∃ n : Nat, ds = [.int n] ∧ (2 ≤ n ∧ n < 1000000) ∧ ((Pr n → Q (.bl true)) ∧ (¬ Pr n → Q (.bl false)))
theorem sc__law_is_prime : FnScope ["often", "divisor"] ["often"] (defScope (top 86)) := ⟨rfl, rfl, rfl, by decide +kernel, rfl, by decide +kernel, by decide +kernel⟩
theorem ok__law_is_prime (A : Kt K mg base) : FnAt P w K mg base 1 "_law_is_prime" ["often"] sp__law_is_prime := by
  obtain ⟨fd, F⟩ := A.fn 63 (d := dd "_law_is_prime" 86)
  refine fn_mk (A.glo 63) F sc__law_is_prime (by decide) (fun _ _ _ _ _ _ us hl => match us, hl with | [_], _ => rfl) ?_ ?_
  · intro ds Q h
    obtain ⟨n, rfl, hn, hq⟩ := h
    rfl
  · intro E cdv A' outer s H Ex ds Qd hr h
    obtain ⟨n, rfl, hn, hq⟩ := h
    refine ⟨_, (pssc_cons (psc_forR2 .never rfl (A.free 103) (pac_cons pec_int (pac_cons pec_int pac_nil)) (pgc_name (i := 1) sc__law_is_prime.nd) (pssc_cons (psc_if (pte_gt (pec_mul (pec_var (i := 1)) (pec_var (i := 1))) (pec_var (i := 0))) (pssc_one (psc_ret (pec_gt (pec_var (i := 0)) pec_int))) pssc_nil)
      (pssc_one (psc_if (pte_eq hr.units (pec_mod (pec_intc (A.free 99) (pac_cons (pec_var (i := 0)) pac_nil)) (pec_var (i := 1))) pec_int) (pssc_one (psc_ret pec_bl)) pssc_nil))))
      (pssc_one (psc_ret pec_bl))), ?_⟩
    obtain ⟨h2, h6⟩ := hn
    obtain ⟨qt, qf⟩ := hq
    refine ⟨⟨by decide, by decide⟩, ⟨by decide, by decide⟩, fun i ρ => ∃ s1, ρ = [.d (.int n), s1] ∧ i ≤ 998 ∧ noDiv n (2 + i), ⟨_, rfl, by omega, fun d a b => by omega⟩, ?_, ?_⟩
    · rintro i ρ hi ⟨s1, rfl, hi2, hd⟩
      have hi : i < 998 := hi
      have ed : (2 : Int) + (i : Nat) = ((2 + i : Nat) : Int) := by omega
      haveI : Sz 20 ((2 : Int) + (i : Nat)) := ⟨by omega⟩
      have esq : ((2 : Int) + (i : Nat)) * ((2 : Int) + (i : Nat)) = (((2 + i) * (2 + i) : Nat) : Int) := by rw [ed, Int.natCast_mul]
      refine ⟨cmW, fun hb => ?_, fun hb => ⟨by omega, fun hb2 => ?_, fun hb2 => ?_⟩⟩
      · have hb : ((n : Nat) : Int) < ((2 : Int) + (i : Nat)) * ((2 : Int) + (i : Nat)) := of_decide_eq_true hb
        rw [esq] at hb
        exact dec_t (Q := fun b => Qd (.bl b)) (by omega) (qt (pr_of h2 hd (by omega)))
      · have hb : ¬ ((n : Nat) : Int) < ((2 : Int) + (i : Nat)) * ((2 : Int) + (i : Nat)) := of_decide_eq_false hb
        rw [esq] at hb
        have hb2 : ((n : Nat) : Int) % ((2 : Int) + (i : Nat)) = 0 := of_decide_eq_true hb2
        rw [ed] at hb2
        exact qf (not_pr (by omega) (by omega) (dvd_of_mod hb2))
      · have hb2 : ¬ ((n : Nat) : Int) % ((2 : Int) + (i : Nat)) = 0 := of_decide_eq_false hb2
        rw [ed] at hb2
        exact ⟨_, rfl, by omega, noDiv_succ hd fun q => hb2 (mod_of_dvd q)⟩
    · rintro ρ ⟨s1, rfl, _, hd⟩
      have hd : noDiv n 1000 := hd
      exact qt (pr_of h2 hd (by omega))
/-! _law_primes_of: slots 0 often, 1 divisor, 2 found, 3 left, 4 turn -/
def sp__law_primes_of : Spd := fun ds Q => ∃ n : Nat, ds = [.int n] ∧ (2 ≤ n ∧ n < 1000000) ∧ ∀ ps : List Nat, ps ≠ [] → ps.length ≤ 2000 → (∀ q ∈ ps, Pr q ∧ q ∣ n) → Q (.lst (ps.map fun q => D.int ((q : Nat) : Int)))
theorem sc__law_primes_of : FnScope ["often", "divisor", "found", "left", "turn"] ["often"] (defScope (top 87)) := ⟨rfl, rfl, rfl, by decide +kernel, rfl, by decide +kernel, by decide +kernel⟩
theorem ok__law_primes_of (A : Kt K mg base) : FnAt P w K mg base 1 "_law_primes_of" ["often"] sp__law_primes_of := by
  obtain ⟨fd, F⟩ := A.fn 64 (d := dd "_law_primes_of" 87)
  refine fn_mk (A.glo 64) F sc__law_primes_of (by decide) (fun _ _ _ _ _ _ us hl => match us, hl with | [_], _ => rfl) ?_ ?_
  · intro ds Q h
    obtain ⟨n, rfl, hn, hq⟩ := h
    rfl
  · intro E cdv A' outer s H Ex ds Qd hr h
    obtain ⟨n, rfl, hn, hq⟩ := h
    refine ⟨_, (pssc_cons (psc_parOD (i := 2) (j := 3) rfl sc__law_primes_of.nd pac_nil (pec_intc (A.free 99) (pac_cons (pec_var (i := 0)) pac_nil)))
      (pssc_cons (psc_forR2 .never rfl (A.free 103) (pac_cons pec_int (pac_cons pec_int pac_nil)) (pgc_name (i := 1) sc__law_primes_of.nd) (pssc_cons (psc_if (pte_gt (pec_mul (pec_var (i := 1)) (pec_var (i := 1))) (pec_var (i := 3))) (pssc_one psc_break) pssc_nil)
      (pssc_one (psc_if (pte_eq hr.units (pec_mod (pec_var (i := 3)) (pec_var (i := 1))) pec_int) (pssc_cons (psc_append (i := 2) (pec_var (i := 1)))
      (pssc_one (psc_forR1 .never rfl (A.free 103) (pac_cons pec_int pac_nil) (pgc_name (i := 4) sc__law_primes_of.nd) (pssc_cons (psc_if (pte_gt (pec_mod (pec_var (i := 3)) (pec_var (i := 1))) pec_int) (pssc_one psc_break) pssc_nil)
      (pssc_one (psc_set (i := 3) sc__law_primes_of.nd (pec_div (pec_var (i := 3)) (pec_var (i := 1))))))))) pssc_nil))))
      (pssc_freeze 2 (pssc_one (psc_ret (pec_ifExp (pte_gt (pec_var (i := 3)) pec_int) (pec_cat (pec_var (i := 2)) (pec_lst (pac_cons (pec_var (i := 3)) pac_nil))) (pec_var (i := 2)))))))), ?_⟩
    obtain ⟨h2, h6⟩ := hn
    refine ⟨rfl, ?_⟩
    have fin : ∀ (ps : List Nat) (l : Nat) (s1 s2 : Cc.Sl), ps.length ≤ 1000 → (∀ q ∈ ps, Pr q ∧ q ∣ n) → l ∣ n → (ps = [] → l = n) → (1 < l → Pr l) → (dFreeze 2 (dRet (dIf (dB (dOp (II0 fun i j => .bl (decide (j < i))) (dVar 3) (dC (.int 1)))) (dOp CatL (dVar 2) (dLst (dCons (dVar 3) dNil))) (dVar 2)))) ⟨fun _ => Qd .non, Qd, fun _ => False, fun _ => False⟩
        [.d (.int n), s1, .own (ps.map fun q => D.int ((q : Nat) : Int)), .d (.int l), s2] := by
      intro ps l s1 s2 hl hp hln h0 h1
      refine ⟨fun hb => ⟨rfl, by simp; omega, ?_⟩, fun hb => ?_⟩
      · have hb : (1 : Int) < (l : Nat) := of_decide_eq_true hb
        have := hq (ps ++ [l]) (by simp) (by simp; omega) fun q hq2 => by
          rcases List.mem_append.mp hq2 with h | h
          · exact hp q h
          · rw [List.mem_singleton.mp h]; exact ⟨h1 (by omega), hln⟩
        rw [List.map_append] at this
        exact this
      · have hb : ¬ (1 : Int) < (l : Nat) := of_decide_eq_false hb
        exact hq ps (fun e => by have := h0 e; omega) (by omega) hp
    refine ⟨⟨by decide, by decide⟩, ⟨by decide, by decide⟩, fun i ρ => ∃ (ps : List Nat) (l : Nat) (s1 s2 : Cc.Sl), ρ = [.d (.int n), s1, .own (ps.map fun q => D.int ((q : Nat) : Int)), .d (.int l), s2] ∧ i ≤ 999 ∧ ps.length ≤ i ∧ (∀ q ∈ ps, Pr q ∧ q ∣ n) ∧ l ∣ n ∧ 1 ≤ l ∧ (ps = [] → l = n) ∧ noDiv l (2 + i), ⟨[], n, _, _, rfl, by omega, by simp, (fun q hq => by cases hq), Nat.dvd_refl _, by omega, fun _ => rfl, fun d a b => by omega⟩, ?_, ?_⟩
    · rintro i ρ hi ⟨ps, l, s1, s2, rfl, hi2, hpl, hps, hln, hl1, h0, hd⟩
      have hi : i < 999 := hi
      have hle := Nat.le_of_dvd (by omega) hln
      have ed : (2 : Int) + (i : Nat) = ((2 + i : Nat) : Int) := by omega
      haveI : Sz 20 ((2 : Int) + (i : Nat)) := ⟨by omega⟩
      have esq : ((2 : Int) + (i : Nat)) * ((2 : Int) + (i : Nat)) = (((2 + i) * (2 + i) : Nat) : Int) := by rw [ed, Int.natCast_mul]
      refine ⟨cmW, fun hb => ?_, fun hb => ⟨by omega, fun hb2 => ?_, fun hb2 => ?_⟩⟩
      · have hb : ((l : Nat) : Int) < ((2 : Int) + (i : Nat)) * ((2 : Int) + (i : Nat)) := of_decide_eq_true hb
        rw [esq] at hb
        exact fin ps l _ _ (by omega) hps hln h0 fun h1 => pr_of (by omega) hd (by omega)
      · have hb2 : ((l : Nat) : Int) % ((2 : Int) + (i : Nat)) = 0 := of_decide_eq_true hb2
        rw [ed] at hb2
        have hdl : 2 + i ∣ l := dvd_of_mod hb2
        refine ⟨by simp; omega, ⟨by decide, by decide⟩, fun j ρ => ∃ (l' : Nat) (s2 : Cc.Sl), ρ = [.d (.int n), .d (.int ((2 : Int) + (i : Nat))), .own (ps.map (fun q => D.int ((q : Nat) : Int)) ++ [D.int ((2 : Int) + (i : Nat))]), .d (.int l'), s2] ∧ j ≤ 20 ∧ l' * (2 + i) ^ j = l, ⟨l, s2, rfl, by omega, by rw [Nat.pow_zero, Nat.mul_one]⟩, ?_, ?_⟩
        · rintro j ρ hj ⟨l', s2, rfl, hj2, hl'⟩
          have hj : j < 20 := hj
          have l0 : l' ∣ l := ⟨_, hl'.symm⟩
          have l1 : 0 < l' := Nat.pos_of_dvd_of_pos l0 (by omega)
          refine ⟨by omega, fun hb3 => ?_, fun hb3 => ?_⟩
          · have hb3 : (0 : Int) < ((l' : Nat) : Int) % ((2 : Int) + (i : Nat)) := of_decide_eq_true hb3
            refine ⟨ps ++ [2 + i], l', .d (.int ((2 : Int) + (i : Nat))), .d (.int (0 + (j : Nat))), ?_, by omega, by simp; omega, fun q hq2 => ?_, Nat.dvd_trans l0 hln, l1, fun e => by simp at e, noDiv_succ (fun d a b c => hd d a b (Nat.dvd_trans c l0)) fun c => ?_⟩
            · rw [List.map_append]
              show [_, _, Cc.Sl.own (_ ++ [D.int ((2 : Int) + (i : Nat))]), _, _] = _
              rw [ed]
              rfl
            · rcases List.mem_append.mp hq2 with h | h
              · exact hps q h
              · rw [List.mem_singleton.mp h]; exact ⟨pr_div (by omega) hd hdl, Nat.dvd_trans hdl hln⟩
            · have this : ((l' : Nat) : Int) % ((2 + i : Nat) : Int) = 0 := mod_of_dvd c
              rw [← ed] at this
              omega
          · have hb3 : ¬ (0 : Int) < ((l' : Nat) : Int) % ((2 : Int) + (i : Nat)) := of_decide_eq_false hb3
            have hz : 2 + i ∣ l' := by
              refine dvd_of_mod ?_
              rw [← ed]
              have := Int.emod_nonneg ((l' : Nat) : Int) (show (2 : Int) + (i : Nat) ≠ 0 by omega)
              omega
            refine ⟨cdW (by omega), l' / (2 + i), .d (.int (0 + (j : Nat))), ?_, by omega, ?_⟩
            · show [_, _, _, Cc.Sl.d (.int (((l' : Nat) : Int) / ((2 : Int) + (i : Nat)))), _] = _
              rw [ed, ← Int.natCast_ediv]
            · rw [Nat.pow_succ, Nat.mul_comm ((2 + i) ^ j), ← Nat.mul_assoc, Nat.div_mul_cancel hz, hl']
        · rintro ρ ⟨l', s2, rfl, _, hl'⟩
          exfalso
          have h20 : (20 : Int).toNat = 20 := rfl
          rw [h20] at hl'
          have hp : 2 ^ 20 ≤ (2 + i) ^ 20 := Nat.pow_le_pow_left (by omega) 20
          rcases Nat.eq_zero_or_pos l' with q | q
          · rw [q, Nat.zero_mul] at hl'; omega
          · have := Nat.mul_le_mul q hp
            omega
      · have hb2 : ¬ ((l : Nat) : Int) % ((2 : Int) + (i : Nat)) = 0 := of_decide_eq_false hb2
        rw [ed] at hb2
        exact ⟨ps, l, _, _, rfl, by omega, by omega, hps, hln, hl1, h0, noDiv_succ hd fun c => hb2 (mod_of_dvd c)⟩
    · rintro ρ ⟨ps, l, s1, s2, rfl, hi2, hpl, hps, hln, hl1, h0, hd⟩
      have hd : noDiv l 1001 := hd
      have hpl : ps.length ≤ 999 := hpl
      have hle := Nat.le_of_dvd (by omega) hln
      exact fin ps l _ _ (by omega) hps hln h0 fun h1 => pr_of (by omega) hd (by omega)
/-- the multiples of a point below the m-th -/
noncomputable def rowOf {V : Cv} (X : G V.C) (m : Nat) : List D := (List.range m).map fun j => encP (nm j X).1
theorem rowOf_succ {V : Cv} (X : G V.C) (m : Nat) : rowOf X (m + 1) = rowOf X m ++ [encP (nm m X).1] := by
  unfold rowOf
  rw [List.range_succ, List.map_append]
  rfl
theorem rowOf_len {V : Cv} (X : G V.C) (m : Nat) : (rowOf X m).length = m := by unfold rowOf; rw [List.length_map, List.length_range]
/-- m is the order of X -/
structure Ord {V : Cv} (X : G V.C) (m : Nat) : Prop where
  pos : 1 ≤ m
  zero : nm m X = 0
  least : ∀ j, 0 < j → j < m → nm j X ≠ 0
theorem ord_of {V : Cv} {X : G V.C} {m : Nat} (h1 : 1 ≤ m) (hz : nm m X = 0) : ∃ k, k ≤ m ∧ Ord X k := by
  induction m using Nat.strongRecOn with
  | _ m ih =>
    by_cases h : ∃ j, 0 < j ∧ j < m ∧ nm j X = 0
    · obtain ⟨j, j0, jm, jz⟩ := h
      obtain ⟨k, hk, o⟩ := ih j jm j0 jz
      exact ⟨k, by omega, o⟩
    · exact ⟨m, Nat.le_refl _, h1, hz, fun j j0 jm jz => h ⟨j, j0, jm, jz⟩⟩
/-- a prime whose curves have no point of order above 301 -/
structure SmallOk (p : Nat) : Prop where
  pr : Pr p
  five : 5 ≤ p
  lt : p < 2 ^ 61
  ord : ∀ V : Cv, V.p = p → ∀ X : G V.C, ∃ m, 1 ≤ m ∧ m ≤ 301 ∧ nm m X = 0
/-! _law_row: slots 0 cubic, 1 spot, 2 turn, 3 row, 4 now -/
def sp__law_row : Spd := fun ds Q => ∃ (V : Cv) (X : G V.C) (m : Nat), ds = [encC V, encP X.1] ∧ (Ord X m ∧ m ≤ 301) ∧ Q (.lst (rowOf X m))
theorem sc__law_row : FnScope ["cubic", "spot", "turn", "row", "now"] ["cubic", "spot"] (defScope (top 88)) := ⟨rfl, rfl, rfl, by decide +kernel, rfl, by decide +kernel, by decide +kernel⟩
theorem ok__law_row (A : Kt K mg base) : FnAt P w K mg base 3 "_law_row" ["cubic", "spot"] sp__law_row := by
  obtain ⟨fd, F⟩ := A.fn 65 (d := dd "_law_row" 88)
  refine fn_mk (A.glo 65) F sc__law_row (by decide) (fun _ _ _ _ _ _ us hl => match us, hl with | [_, _], _ => rfl) ?_ ?_
  · intro ds Q h
    obtain ⟨V, X, m, rfl, hm, hq⟩ := h
    rfl
  · intro E cdv A' outer s H Ex ds Qd hr h
    obtain ⟨V, X, m, rfl, hm, hq⟩ := h
    refine ⟨_, (pssc_cons (psc_parOD (i := 3) (j := 4) rfl sc__law_row.nd (pac_cons (pec_tup pac_nil) pac_nil) (pec_var (i := 1)))
      (pssc_cons (psc_forR1 .never rfl (A.free 103) (pac_cons pec_int pac_nil) (pgc_name (i := 2) sc__law_row.nd) (pssc_cons (psc_if (pte_eq hr.units (pec_var (i := 4)) (pec_tup pac_nil)) (pssc_one psc_break) pssc_nil)
      (pssc_cons (psc_append (i := 3) (pec_var (i := 4)))
      (pssc_one (psc_set (i := 4) sc__law_row.nd (pec_call (ok__law_sum A) (hr.mono (by decide)) (pac_cons (pec_var (i := 0)) (pac_cons (pec_var (i := 4)) (pac_cons (pec_var (i := 1)) pac_nil)))))))))
      (pssc_freeze 3 (pssc_one (psc_ret (pec_var (i := 3))))))), ?_⟩
    obtain ⟨o, hm⟩ := hm
    have z0 : rowOf X 1 = [.tup []] := rfl
    refine ⟨rfl, rfl, ⟨by decide, by decide⟩, fun i ρ => ∃ s2, ρ = [.d (encC V), .d (encP X.1), s2, .own (rowOf X (i + 1)), .d (encP (nm (i + 1) X).1)] ∧ i < m, ⟨.no, ?_, o.pos⟩, ?_, ?_⟩
    · rw [z0, nm_one]; rfl
    · rintro i ρ hi ⟨s2, rfl, him⟩
      have hi : i < 300 := hi
      refine ⟨rfl, eq_encP (Y := none) (f := id) ⟨fun hb => ?_, fun hb => ?_⟩⟩
      · have hz : nm (i + 1) X = 0 := G.ext (of_decide_eq_true hb)
        have : m = i + 1 := by
          rcases Nat.lt_or_ge (i + 1) m with q | q
          · exact absurd hz (o.least _ (by omega) q)
          · omega
        rw [← this]; exact hq
      · have hz : nm (i + 1) X ≠ 0 := fun q => (of_decide_eq_false hb) (by rw [q]; rfl)
        have him : i + 1 < m := by
          rcases Nat.lt_or_ge (i + 1) m with q | q
          · exact q
          · have : m = i + 1 := by omega
            rw [← this] at hz
            exact absurd o.zero hz
        refine ⟨by rw [rowOf_len]; omega, V, nm (i + 1) X, X, rfl, .d (.int (0 + (i : Nat))), ?_, him⟩
        rw [rowOf_succ X (i + 1)]
        rfl
    · rintro ρ ⟨s2, rfl, him⟩
      have h300 : (300 : Int).toNat = 300 := rfl
      rw [h300] at him
      have : m = 301 := by omega
      subst this
      exact hq
theorem zp_lit_ne {p : Nat} [hp : Prm p] {n : Nat} (h0 : 0 < n) (h : n < p) : (fi p (n : Nat)) ≠ 0 := fun z => by
  obtain ⟨c, hc⟩ := fi_zero_iff.mp z
  have hcp := Int.lt_trichotomy c 0
  rcases hcp with q | q | q
  · have := Int.mul_le_mul_of_nonneg_left (show c ≤ -1 by omega) (show (0 : Int) ≤ p by omega)
    omega
  · subst q; omega
  · have := Int.mul_le_mul_of_nonneg_left (show 1 ≤ c by omega) (show (0 : Int) ≤ p by omega)
    omega
theorem two_ne {p : Nat} [hp : Prm p] (h : 5 ≤ p) : (2 : Zp p) ≠ 0 := zp_lit_ne (n := 2) (by decide) (by omega)
/-- the curve through a point, not flat -/
def mkV (p : Nat) (hp : Prm p) (hb : Bd p) (five : 5 ≤ p) (a b : Zp p) (ns : 4 * a * a * a + 27 * b * b ≠ 0) : Cv := ⟨p, hp, hb, five, ⟨a, b, two_ne five, ns⟩⟩
def mkX {p : Nat} {hp : Prm p} {hb : Bd p} {five : 5 ≤ p} {a x y : Zp p} (ns : 4 * a * a * a + 27 * (y * y - x * x * x - a * x) * (y * y - x * x * x - a * x) ≠ 0) : G (mkV p hp hb five a (y * y - x * x * x - a * x) ns).C :=
  ⟨some (x, y), by show y * y = x * x * x + a * x + (y * y - x * x * x - a * x); grind⟩
theorem pr7 : Pr 7 := pr_of (k := 3) (by decide) (fun d h1 h2 h3 => by
  have : d = 2 := by omega
  subst this
  exact absurd h3 (by decide)) (by decide)
instance : Prm 7 := ⟨pr7⟩
instance : Bd 7 := ⟨by decide⟩
def z7 (n : Nat) (h : n < 7) : Zp 7 := ⟨n, by omega, by omega⟩
theorem ns7 : 4 * (z7 0 (by decide)) * (z7 0 (by decide)) * (z7 0 (by decide)) + 27 * (z7 5 (by decide)) * (z7 5 (by decide)) ≠ 0 := by decide
def V7 : Cv := ⟨7, inferInstance, inferInstance, by decide, ⟨z7 0 (by decide), z7 5 (by decide), two_ne (by decide), ns7⟩⟩
def X7 : G V7.C := ⟨some (z7 3 (by decide), z7 2 (by decide)), by show z7 2 (by decide) * z7 2 (by decide) = z7 3 (by decide) * z7 3 (by decide) * z7 3 (by decide) + z7 0 (by decide) * z7 3 (by decide) + z7 5 (by decide); decide⟩
theorem X7_ne : X7 ≠ 0 := fun h => by
  have := congrArg Subtype.val h
  cases this
theorem ord_two {V : Cv} {X : G V.C} {m : Nat} (o : Ord X m) (h : X ≠ 0) : 2 ≤ m := by
  have := o.pos
  rcases Nat.lt_or_ge m 2 with q | q
  · have : m = 1 := by omega
    subst this
    have z := o.zero
    rw [nm_one] at z
    exact absurd z h
  · exact q
/-! _law_small: slots 0 deal, 1 primes, 2 p, 3 turn, 4 kind, 5 cubic, 6 x, 7 y, 8 a -/
def sp__law_small : Spd := fun ds Q => ∃ ps : List Nat, ds = [.deal, .lst (ps.map fun p => D.int ((p : Nat) : Int))] ∧ (ps ≠ [] ∧ ps.length ≤ 100 ∧ (∀ p ∈ ps, SmallOk p) ∧ SmallOk 7) ∧ ∀ (V : Cv) (X : G V.C) (m : Nat), 2 ≤ m → m ≤ 301 → Ord X m → Q (.lst [encC V, .lst (rowOf X m)])
theorem sc__law_small : FnScope ["deal", "primes", "p", "turn", "kind", "cubic", "x", "y", "a"] ["deal", "primes"] (defScope (top 89)) := ⟨rfl, rfl, rfl, by decide +kernel, rfl, by decide +kernel, by decide +kernel⟩
theorem ok__law_small (A : Kt K mg base) : FnAt P w K mg base 4 "_law_small" ["deal", "primes"] sp__law_small := by
  obtain ⟨fd, F⟩ := A.fn 66 (d := dd "_law_small" 89)
  refine fn_mk (A.glo 66) F sc__law_small (by decide) (fun _ _ _ _ _ _ us hl => match us, hl with | [_, _], _ => rfl) ?_ ?_
  · intro ds Q h
    obtain ⟨ps, rfl, hp, hq⟩ := h
    rfl
  · intro E cdv A' outer s H Ex ds Qd hr h
    obtain ⟨ps, rfl, hp, hq⟩ := h
    refine ⟨_, (pssc_cons (psc_set (i := 2) sc__law_small.nd (pec_call (ok__law_of A) (hr.mono (by decide)) (pac_cons (pec_var (i := 0)) (pac_cons (pec_var (i := 1)) pac_nil))))
      (pssc_cons (psc_forR1 .never rfl (A.free 103) (pac_cons pec_int pac_nil) (pgc_name (i := 3) sc__law_small.nd) (pssc_cons (psc_par3 (i := 6) (j := 7) (l := 8) rfl sc__law_small.nd (pac_cons (pec_call (ok__law_any A) (hr.mono (by decide)) (pac_cons (pec_var (i := 0)) (pac_cons (pec_var (i := 2)) pac_nil))) (pac_cons (pec_call (ok__law_any A) (hr.mono (by decide)) (pac_cons (pec_var (i := 0)) (pac_cons (pec_var (i := 2)) pac_nil))) (pac_cons (pec_call (ok__law_any A) (hr.mono (by decide)) (pac_cons (pec_var (i := 0)) (pac_cons (pec_var (i := 2)) pac_nil))) pac_nil))))
      (pssc_cons (psc_set (i := 4) sc__law_small.nd (pec_call (ok__law_any A) (hr.mono (by decide)) (pac_cons (pec_var (i := 0)) (pac_cons pec_int pac_nil))))
      (pssc_cons (psc_if (pte_eq hr.units (pec_var (i := 4)) pec_int) (pssc_one (psc_set (i := 8) sc__law_small.nd pec_int)) pssc_nil)
      (pssc_cons (psc_if (PWc.pt (pwc_and (pte_eq hr.units (pec_var (i := 4)) pec_int) (pwc_and1 (pte_gt (pec_var (i := 6)) pec_int)))) (pssc_one (psc_set (i := 8) sc__law_small.nd (pec_mod (pec_intc (A.free 99) (pac_cons (pec_mul (pec_sub (pec_mul (pec_var (i := 7)) (pec_var (i := 7))) (pec_mul (pec_mul (pec_var (i := 6)) (pec_var (i := 6))) (pec_var (i := 6)))) (pec_call (ok__law_back A) (hr.mono (by decide)) (pac_cons (pec_var (i := 2)) (pac_cons (pec_var (i := 6)) pac_nil)))) pac_nil)) (pec_var (i := 2))))) pssc_nil)
      (pssc_cons (psc_if (pte_eq hr.units (pec_var (i := 4)) pec_int) (pssc_one (psc_set (i := 6) sc__law_small.nd (pec_mod (pec_intc (A.free 99) (pac_cons (pec_var (i := 6)) pac_nil)) pec_int))) pssc_nil)
      (pssc_cons (psc_set (i := 5) sc__law_small.nd (pec_call (ok__law_through A) (hr.mono (by decide)) (pac_cons (pec_var (i := 2)) (pac_cons (pec_var (i := 8)) (pac_cons (pec_tup (pac_cons (pec_var (i := 6)) (pac_cons (pec_var (i := 7)) pac_nil))) pac_nil)))))
      (pssc_one (psc_if (ptc_not (ptc_val (pec_call (ok__law_is_flat A) (hr.mono (by decide)) (pac_cons (pec_var (i := 5)) pac_nil)))) (pssc_one (psc_ret (pec_lst (pac_cons (pec_var (i := 5)) (pac_cons (pec_call (ok__law_row A) (hr.mono (by decide)) (pac_cons (pec_var (i := 5)) (pac_cons (pec_tup (pac_cons (pec_var (i := 6)) (pac_cons (pec_var (i := 7)) pac_nil))) pac_nil))) pac_nil))))) pssc_nil)))))))))
      (pssc_one (psc_ret (pec_lst (pac_cons (pec_tup (pac_cons pec_int (pac_cons pec_int (pac_cons pec_int pac_nil)))) (pac_cons (pec_call (ok__law_row A) (hr.mono (by decide)) (pac_cons (pec_tup (pac_cons pec_int (pac_cons pec_int (pac_cons pec_int pac_nil)))) (pac_cons (pec_tup (pac_cons pec_int (pac_cons pec_int pac_nil))) pac_nil))) pac_nil))))))), ?_⟩
    obtain ⟨hne, hl, hps, h7⟩ := hp
    refine ⟨_, rfl, ⟨by rw [List.length_map]; exact List.length_pos_iff.mpr hne, by rw [List.length_map]; omega⟩, fun d hd => ?_⟩
    obtain ⟨p, hp, rfl⟩ := List.mem_map.mp hd
    have S := hps p hp
    haveI hpr : Prm p := ⟨S.pr⟩
    haveI hbd : Bd p := ⟨S.lt⟩
    have p5 := S.five
    have p61 := S.lt
    have done : ∀ (a x y : Zp p), (4 * a * a * a + 27 * (y * y - x * x * x - a * x) * (y * y - x * x * x - a * x) ≠ 0) → ∃ (V : Cv) (X : G V.C) (m : Nat), (D.tup [.int p, .int a.v, .int (y * y - x * x * x - a * x).v] = encC V ∧ D.tup [.int x.v, .int y.v] = encP X.1) ∧ 2 ≤ m ∧ m ≤ 301 ∧ Ord X m := by
      intro a x y ns
      obtain ⟨m, m1, m2, mz⟩ := S.ord (mkV p hpr hbd p5 a _ ns) rfl (mkX ns)
      obtain ⟨k, hk, o⟩ := ord_of m1 mz
      have ne : (mkX (hp := hpr) (hb := hbd) (five := p5) ns) ≠ 0 := fun h => by
        have := congrArg Subtype.val h
        cases this
      exact ⟨mkV p hpr hbd p5 a _ ns, mkX ns, k, ⟨rfl, rfl⟩, ord_two o ne, by omega, o⟩
    refine ⟨⟨by decide, by decide⟩, fun i ρ => ∃ s3 s4 s5 s6 s7 s8, ρ = [.d .deal, .d (.lst (ps.map fun p => D.int ((p : Nat) : Int))), .d (.int p), s3, s4, s5, s6, s7, s8], ⟨_, _, _, _, _, _, rfl⟩, ?_, ?_⟩
    · rintro i ρ hi ⟨s3, s4, s5, s6, s7, s8, rfl⟩
      refine ⟨p, rfl, ⟨by omega, by omega⟩, fun x hx => ⟨p, rfl, ⟨by omega, by omega⟩, fun y hy => ⟨p, rfl, ⟨by omega, by omega⟩, fun a ha => ⟨8, rfl, ⟨by decide, by decide⟩, fun kind hkind => ?_⟩⟩⟩⟩
      dsimp only
      refine dseq_mid (ts := dIfS _ _ _) (us := dSeq _ _) (fun ρ => ∃ (a : Zp p) (s5 : Cc.Sl), ρ = [.d .deal, .d (.lst (ps.map fun p => D.int ((p : Nat) : Int))), .d (.int p), .d (.int (0 + (i : Nat))), .d (.int kind), s5, .d (.int x), .d (.int y), .d (.int a.v)]) ?_ ?_
      · intro nx hnx
        exact ⟨fun _ => hnx _ ⟨⟨0, by omega, by omega⟩, s5, rfl⟩, fun _ => hnx _ ⟨⟨a, by omega, by omega⟩, s5, rfl⟩⟩
      rintro ρ ⟨a, s5, rfl⟩
      refine dseq_mid (ts := dIfS _ _ _) (us := dSeq _ _) (fun ρ => ∃ (a : Zp p) (s5 : Cc.Sl), ρ = [.d .deal, .d (.lst (ps.map fun p => D.int ((p : Nat) : Int))), .d (.int p), .d (.int (0 + (i : Nat))), .d (.int kind), s5, .d (.int x), .d (.int y), .d (.int a.v)]) ?_ ?_
      · intro nx hnx
        haveI : Sz 61 ((x : Nat) : Int) := ⟨by omega⟩
        haveI : Sz 61 ((y : Nat) : Int) := ⟨by omega⟩
        refine ⟨fun _ => ⟨fun hx0 => ?_, fun _ => hnx _ ⟨a, s5, rfl⟩⟩, fun _ => ⟨(fun h => nomatch h), fun _ => hnx _ ⟨a, s5, rfl⟩⟩⟩
        have hx0 : (0 : Int) < (x : Nat) := of_decide_eq_true hx0
        exact ⟨cmW, cmW, cmW, p, hpr, hbd, x, rfl, zp_lit_ne (by omega) hx, cmW, ppos p, hnx _ ⟨fi p ((((y : Nat) : Int) * y - ((x : Nat) : Int) * x * x) * (fi p (x : Nat))⁻¹.v), s5, rfl⟩⟩
      rintro ρ ⟨a, s5, rfl⟩
      refine dseq_mid (ts := dIfS _ _ _) (us := dSeq _ _) (fun ρ => ∃ (x : Zp p) (s5 : Cc.Sl), ρ = [.d .deal, .d (.lst (ps.map fun p => D.int ((p : Nat) : Int))), .d (.int p), .d (.int (0 + (i : Nat))), .d (.int kind), s5, .d (.int x.v), .d (.int y), .d (.int a.v)]) ?_ ?_
      · intro nx hnx
        exact ⟨fun _ => ⟨(show (0 : Int) < 2 by decide), hnx _ ⟨⟨((x : Nat) : Int) % 2, by omega, by omega⟩, s5, rfl⟩⟩, fun _ => hnx _ ⟨⟨x, by omega, by omega⟩, s5, rfl⟩⟩
      rintro ρ ⟨x, s5, rfl⟩
      have ey : ((y : Nat) : Int) = (⟨y, by omega, by omega⟩ : Zp p).v := rfl
      generalize (⟨y, by omega, by omega⟩ : Zp p) = y' at ey
      rw [ey]
      refine ⟨rfl, p, hpr, hbd, a, x, y', rfl, p, hpr, hbd, a, _, rfl, fun hb => ?_, fun _ => ⟨_, _, _, _, _, _, rfl⟩⟩
      have ns : 4 * a * a * a + 27 * (y' * y' - x * x * x - a * x) * (y' * y' - x * x * x - a * x) ≠ 0 := fun q => by
        rw [decide_eq_true q] at hb
        cases hb
      obtain ⟨V, X, m, ⟨e1, e2⟩, m2, m3, o⟩ := done a x y' ns
      refine ⟨rfl, V, X, m, ?_, ⟨o, m3⟩, rfl, ?_⟩
      · show [D.tup [.int p, .int a.v, .int (y' * y' - x * x * x - a * x).v], D.tup [.int x.v, .int y'.v]] = _
        rw [e1, e2]
      · have := hq V X m m2 m3 o
        rw [← e1] at this
        exact this
    · rintro ρ ⟨s3, s4, s5, s6, s7, s8, rfl⟩
      obtain ⟨m, m1, m2, mz⟩ := h7.ord V7 rfl X7
      obtain ⟨k, hk, o⟩ := ord_of m1 mz
      exact ⟨rfl, rfl, rfl, V7, X7, k, rfl, ⟨o, by omega⟩, rfl, hq V7 X7 k (ord_two o X7_ne) (by omega) o⟩
end
end K75
set_option Elab.async false
set_option linter.all false
set_option maxRecDepth 100000
set_option maxHeartbeats 1000000
namespace K75
open PySem PySem.Spec PyProof.Rows L2 Cc Ec
section
variable {P : Program} {w : World} {K : PySem.W.Frag} {mg : Str → Option Value} {base : Heap}
theorem rowOf_get {V : Cv} (X : G V.C) {m j : Nat} (h : j < m) : atI (rowOf X m) ((j : Nat) : Int) = some (encP (nm j X).1) := by
  refine atI_nat ?_
  unfold rowOf
  rw [List.getElem?_map, List.getElem?_range h]
  rfl
theorem rowOf_mem {V : Cv} {X : G V.C} {m : Nat} {d : D} (h : d ∈ rowOf X m) : ∃ Y : G V.C, d = encP Y.1 := by
  unfold rowOf at h
  obtain ⟨j, _, rfl⟩ := List.mem_map.mp h
  exact ⟨_, rfl⟩
theorem ord_hm (h : Hm) : Ord h.B h.n := ⟨by have := h.hn.pr.1; omega, h.zero, fun j j0 jn jz => by
  have := Nat.le_of_dvd j0 (nm_prime h.hn.pr h.zero h.ne jz)
  omega⟩
/-! _law_small_home: slots 0 deal, 1 primes, 2 order, 3 start, 4 cubic, 5 row -/
def sp__law_small_home : Spd := fun ds Q => ∃ ps : List Nat, ds = [.deal, .lst (ps.map fun p => D.int ((p : Nat) : Int))] ∧ (ps ≠ [] ∧ ps.length ≤ 100 ∧ (∀ p ∈ ps, SmallOk p) ∧ SmallOk 7) ∧ ∀ (h : Hm) (L : G h.V.C), h.n ≤ 301 → Q (.lst [encH h, encP L.1])
theorem sc__law_small_home : FnScope ["deal", "primes", "order", "start", "cubic", "row"] ["deal", "primes"] (defScope (top 90)) := ⟨rfl, rfl, rfl, by decide +kernel, rfl, by decide +kernel, by decide +kernel⟩
theorem ok__law_small_home (A : Kt K mg base) : FnAt P w K mg base 5 "_law_small_home" ["deal", "primes"] sp__law_small_home := by
  obtain ⟨fd, F⟩ := A.fn 67 (d := dd "_law_small_home" 90)
  refine fn_mk (A.glo 67) F sc__law_small_home (by decide) (fun _ _ _ _ _ _ us hl => match us, hl with | [_, _], _ => rfl) ?_ ?_
  · intro ds Q h
    obtain ⟨ps, rfl, hp, hq⟩ := h
    rfl
  · intro E cdv A' outer s H Ex ds Qd hr h
    obtain ⟨ps, rfl, hp, hq⟩ := h
    refine ⟨_, (pssc_cons (psc_asg (pec_call (ok__law_small A) (hr.mono (by decide)) (pac_cons (pec_var (i := 0)) (pac_cons (pec_var (i := 1)) pac_nil))) (pgc_lst rfl (pgsc_cons (pgc_name (i := 4) sc__law_small_home.nd) (pgsc_cons (pgc_name (i := 5) sc__law_small_home.nd) pgsc_nil))))
      (pssc_cons (psc_set (i := 2) sc__law_small_home.nd (pec_call (ok__law_of A) (hr.mono (by decide)) (pac_cons (pec_var (i := 0)) (pac_cons (pec_call (ok__law_primes_of A) (hr.mono (by decide)) (pac_cons (pec_lenc (A.free 101) (pac_cons (pec_var (i := 5)) pac_nil)) pac_nil)) pac_nil))))
      (pssc_cons (psc_set (i := 3) sc__law_small_home.nd (pec_ix (pec_var (i := 5)) (pec_mul (pec_div (pec_lenc (A.free 101) (pac_cons (pec_var (i := 5)) pac_nil)) (pec_var (i := 2))) (pec_addI pec_int (pec_call (ok__law_any A) (hr.mono (by decide)) (pac_cons (pec_var (i := 0)) (pac_cons (pec_sub (pec_var (i := 2)) pec_int) pac_nil))))) (fun _ _ => rfl)))
      (pssc_one (psc_ret (pec_lst (pac_cons (pec_tup (pac_cons (pec_var (i := 4)) (pac_cons (pec_var (i := 3)) (pac_cons (pec_var (i := 2)) pac_nil)))) (pac_cons (pec_call (ok__law_of A) (hr.mono (by decide)) (pac_cons (pec_var (i := 0)) (pac_cons (pec_var (i := 5)) pac_nil))) pac_nil)))))))), ?_⟩
    refine ⟨ps, rfl, hp, fun V X m m2 m3 o => ?_⟩
    refine ⟨rfl, ?_⟩
    have el : ((rowOf X m).length : Int) = ((m : Nat) : Int) := by rw [rowOf_len]
    refine ⟨m, ?_, ⟨m2, by omega⟩, fun qs hq0 hql hqs => ?_⟩
    · show [D.int ((rowOf X m).length : Nat)] = _
      rw [rowOf_len]
    refine ⟨_, rfl, ⟨by rw [List.length_map]; exact List.length_pos_iff.mpr hq0, by rw [List.length_map]; omega⟩, fun d hd => ?_⟩
    obtain ⟨q, hqm, rfl⟩ := List.mem_map.mp hd
    obtain ⟨pq, dq⟩ := hqs q hqm
    have q2 := pq.1
    have qle := Nat.le_of_dvd (by omega) dq
    haveI : Sz 20 ((rowOf X m).length : Int) := ⟨by rw [el]; omega⟩
    haveI : Sz 20 ((q : Nat) : Int) := ⟨by omega⟩
    refine ⟨cdW (by omega), q - 1, ?_, ⟨by omega, by omega⟩, fun r hr => ?_⟩
    · show [_, D.int (((q : Nat) : Int) - 1)] = _
      rw [show ((q : Nat) : Int) - 1 = ((q - 1 : Nat) : Int) by omega]
    obtain ⟨c, hc⟩ := dq
    have ediv : m / q = c := by rw [hc]; exact Nat.mul_div_cancel_left c (by omega)
    have eidx : ((rowOf X m).length : Int) / ((q : Nat) : Int) * (1 + ((r : Nat) : Int)) = ((c * (1 + r) : Nat) : Int) := by
      rw [el, ← Int.natCast_ediv, ediv, Int.natCast_mul]
      congr 1
    have c0 : 0 < c := Nat.pos_of_ne_zero fun e => by rw [e, Nat.mul_zero] at hc; omega
    have hlt : c * (1 + r) < m := by
      have := Nat.mul_le_mul_left c (show 1 + r ≤ q - 1 by omega)
      rw [hc, Nat.mul_comm q c]
      have h3 : c * (q - 1) < c * q := Nat.mul_lt_mul_of_pos_left (by omega) c0
      omega
    haveI : Sz 20 ((1 : Int) + ((r : Nat) : Int)) := ⟨by omega⟩
    haveI : Sz 20 (((rowOf X m).length : Int) / ((q : Nat) : Int)) := ⟨by
      rw [el, ← Int.natCast_ediv, ediv]
      have := Nat.le_of_dvd (by omega) (show c ∣ m from ⟨q, by rw [hc, Nat.mul_comm]⟩)
      omega⟩
    have pos : 0 < c * (1 + r) := Nat.mul_pos c0 (by omega)
    refine ⟨cmW, encP (nm (c * (1 + r)) X).1, ?_, ?_⟩
    · show atI (rowOf X m) (((rowOf X m).length : Int) / ((q : Nat) : Int) * (1 + ((r : Nat) : Int))) = _
      rw [eidx]; exact rowOf_get X hlt
    have hz : nm q (nm (c * (1 + r)) X) = 0 := by
      rw [← nm_mul]
      have : q * (c * (1 + r)) = (1 + r) * m := by rw [hc, ← Nat.mul_assoc, Nat.mul_comm]
      rw [this, nm_mul, o.zero, nm_z]
    refine ⟨rfl, _, rfl, ⟨by rw [rowOf_len]; omega, by rw [rowOf_len]; omega⟩, fun d hd => ?_⟩
    obtain ⟨Y, rfl⟩ := rowOf_mem hd
    exact ⟨rfl, hq ⟨V, q, ⟨pq⟩, ⟨by omega⟩, nm (c * (1 + r)) X, hz, o.least _ pos hlt⟩ Y (by show q ≤ 301; omega)⟩
def smallList : List Nat → Prop := fun ps => ps ≠ [] ∧ ps.length ≤ 100 ∧ (∀ p ∈ ps, SmallOk p) ∧ SmallOk 7
theorem sm_of {p : Nat} (h : smlB p = true) : SmallOk p := by
  obtain ⟨a, b, c⟩ := smlB_ok h
  refine ⟨c, a, by omega, fun V e X => ?_⟩
  exact ord_sml (by rw [e]; exact b) X
theorem sm_all {ps : List Nat} (h : ps.all smlB = true) (h1 : ps ≠ []) (h2 : ps.length ≤ 100) : smallList ps := ⟨h1, h2, fun p hp => sm_of (List.all_eq_true.mp h p hp), sm_of (by decide +kernel)⟩
theorem small_5 : smallList [5, 7, 11, 13] := sm_all (by decide +kernel) (by decide) (by decide)
theorem small_199 : smallList [5, 7, 11, 13, 17, 19, 23, 29, 31, 37, 41, 43, 89, 97, 127, 163, 199] := sm_all (by decide +kernel) (by decide) (by decide)
theorem small_61 : smallList [5, 7, 11, 13, 17, 19, 23, 29, 31, 37, 41, 43, 61, 199] := sm_all (by decide +kernel) (by decide) (by decide)
/-! _law_all_talks: slots 0 deal, 1 once, 2 home, 3 lead, 4 cubic, 5 start, 6 order, 7 row, 8 secret, 9 lock, 10 step, 11 weight, 12 tail, 13 told, 14 other -/
def sp__law_all_talks : Spd := fun ds Q => ds = [.deal] ∧ Q (.bl true)
theorem sc__law_all_talks : FnScope ["deal", "once", "home", "lead", "cubic", "start", "order", "row", "secret", "lock", "step", "weight", "tail", "told", "other"] ["deal"] (defScope (top 116)) := ⟨rfl, rfl, rfl, by decide +kernel, rfl, by decide +kernel, by decide +kernel⟩
theorem ok__law_all_talks (A : Kt K mg base) : FnAt P w K mg base 8 "_law_all_talks" ["deal"] sp__law_all_talks := by
  obtain ⟨fd, F⟩ := A.fn 93 (d := dd "_law_all_talks" 116)
  refine fn_mk (A.glo 93) F sc__law_all_talks (by decide) (fun _ _ _ _ _ _ us hl => match us, hl with | [_], _ => rfl) ?_ ?_
  · intro ds Q h
    obtain ⟨rfl, hq⟩ := h
    rfl
  · intro E cdv A' outer s H Ex ds Qd hr h
    obtain ⟨rfl, hq⟩ := h
    refine ⟨_, (pssc_cons (psc_asg (pec_call (ok__law_small_home A) (hr.mono (by decide)) (pac_cons (pec_var (i := 0)) (pac_cons (pec_lst (pac_cons pec_int (pac_cons pec_int (pac_cons pec_int (pac_cons pec_int pac_nil))))) pac_nil))) (pgc_lst rfl (pgsc_cons (pgc_name (i := 2) sc__law_all_talks.nd) (pgsc_cons (pgc_name (i := 3) sc__law_all_talks.nd) pgsc_nil))))
      (pssc_cons (psc_asg (pec_var (i := 2)) (pgc_tup rfl (pgsc_cons (pgc_name (i := 4) sc__law_all_talks.nd) (pgsc_cons (pgc_name (i := 5) sc__law_all_talks.nd) (pgsc_cons (pgc_name (i := 6) sc__law_all_talks.nd) pgsc_nil)))))
      (pssc_cons (psc_par (i := 7) (j := 8) rfl sc__law_all_talks.nd (pac_cons (pec_call (ok__law_row A) (hr.mono (by decide)) (pac_cons (pec_var (i := 4)) (pac_cons (pec_var (i := 5)) pac_nil))) (pac_cons (pec_call (ok__law_any A) (hr.mono (by decide)) (pac_cons (pec_var (i := 0)) (pac_cons (pec_var (i := 6)) pac_nil))) pac_nil)))
      (pssc_cons (psc_par (i := 9) (j := 10) rfl sc__law_all_talks.nd (pac_cons (pec_ix (pec_var (i := 7)) (pec_var (i := 8)) (fun _ _ => rfl)) (pac_cons (pec_addI (pec_call (ok__law_any A) (hr.mono (by decide)) (pac_cons (pec_var (i := 0)) (pac_cons (pec_sub (pec_var (i := 6)) pec_int) pac_nil))) pec_int) pac_nil)))
      (pssc_cons (psc_forR1 .never rfl (A.free 103) (pac_cons (pec_var (i := 6)) pac_nil) (pgc_name (i := 1) sc__law_all_talks.nd) (pssc_one (psc_forR1 .never rfl (A.free 103) (pac_cons (pec_var (i := 6)) pac_nil) (pgc_name (i := 11) sc__law_all_talks.nd) (pssc_cons (psc_set (i := 12) sc__law_all_talks.nd (pec_mod (pec_intc (A.free 99) (pac_cons (pec_addI (pec_var (i := 1)) (pec_mul (pec_var (i := 11)) (pec_var (i := 8)))) pac_nil)) (pec_var (i := 6))))
      (pssc_cons (psc_set (i := 13) sc__law_all_talks.nd (pec_call (ok_made_up A) (hr.mono (by decide)) (pac_cons (pec_var (i := 2)) (pac_cons (pec_var (i := 9)) (pac_cons (pec_var (i := 11)) (pac_cons (pec_var (i := 12)) pac_nil))))))
      (pssc_cons (psc_if (ptc_not (ptc_val (pec_call (ok__law_same A) (hr.mono (by decide)) (pac_cons (pec_var (i := 13)) (pac_cons (pec_tup (pac_cons (pec_ix (pec_var (i := 7)) (pec_var (i := 1)) (fun _ _ => rfl)) (pac_cons (pec_var (i := 11)) (pac_cons (pec_var (i := 12)) pac_nil)))) pac_nil))))) (pssc_one (psc_ret pec_bl)) pssc_nil)
      (pssc_cons (psc_set (i := 14) sc__law_all_talks.nd (pec_tup (pac_cons (pec_ix (pec_var (i := 7)) (pec_var (i := 1)) (fun _ _ => rfl)) (pac_cons (pec_var (i := 11)) (pac_cons (pec_mod (pec_intc (A.free 99) (pac_cons (pec_addI (pec_var (i := 12)) (pec_var (i := 10))) pac_nil)) (pec_var (i := 6))) pac_nil)))))
      (pssc_one (psc_if (ptc_not (ptc_val (pec_call (ok__law_same A) (hr.mono (by decide)) (pac_cons (pec_tup (pac_cons (pec_call (ok_talk_holds A) (hr.mono (by decide)) (pac_cons (pec_var (i := 2)) (pac_cons (pec_var (i := 9)) (pac_cons (pec_var (i := 13)) pac_nil)))) (pac_cons (pec_call (ok_talk_holds A) (hr.mono (by decide)) (pac_cons (pec_var (i := 2)) (pac_cons (pec_var (i := 9)) (pac_cons (pec_var (i := 14)) pac_nil)))) pac_nil))) (pac_cons (pec_tup (pac_cons pec_bl (pac_cons pec_bl pac_nil))) pac_nil))))) (pssc_one (psc_ret pec_bl)) pssc_nil)))))))))
      (pssc_one (psc_ret pec_bl))))))), ?_⟩
    refine ⟨rfl, [5, 7, 11, 13], rfl, small_5, fun h L hn => ?_⟩
    have h2 := h.hn.pr.1
    refine ⟨rfl, rfl, h.V, h.B, h.n, rfl, ⟨ord_hm h, hn⟩, h.n, rfl, ⟨by omega, by omega⟩, fun k hk => ?_⟩
    refine ⟨encP (nm k h.B).1, rowOf_get _ hk, h.n - 1, ?_, ⟨by omega, by omega⟩, fun st hst => ?_⟩
    · show [_, D.int (((h.n : Nat) : Int) - 1)] = _
      rw [show ((h.n : Nat) : Int) - 1 = ((h.n - 1 : Nat) : Int) by omega]
    refine ⟨⟨by omega, by omega⟩, fun i ρ => ∃ s1 s11 s12 s13 s14, ρ = [.d .deal, s1, .d (encH h), .d (encP L.1), .d (encC h.V), .d (encP h.B.1), .d (.int h.n), .d (.lst (rowOf h.B h.n)), .d (.int k), .d (encP (nm k h.B).1), .d (.int (((st : Nat) : Int) + 1)), s11, s12, s13, s14], ⟨_, _, _, _, _, rfl⟩, ?_, ?_⟩
    · rintro i ρ hi ⟨s1, s11, s12, s13, s14, rfl⟩
      have hi : i < h.n := by simpa using hi
      refine ⟨⟨by omega, by omega⟩, fun j ρ => ∃ s11 s12 s13 s14, ρ = [.d .deal, .d (.int (0 + (i : Nat))), .d (encH h), .d (encP L.1), .d (encC h.V), .d (encP h.B.1), .d (.int h.n), .d (.lst (rowOf h.B h.n)), .d (.int k), .d (encP (nm k h.B).1), .d (.int (((st : Nat) : Int) + 1)), s11, s12, s13, s14], ⟨_, _, _, _, rfl⟩, ?_, ?_⟩
      · rintro j ρ hj ⟨s11, s12, s13, s14, rfl⟩
        have hj : j < h.n := by simpa using hj
        haveI : Sz 20 ((0 : Int) + (j : Nat)) := ⟨by omega⟩
        haveI : Sz 20 ((k : Nat) : Int) := ⟨by omega⟩
        have et : (((0 : Int) + (i : Nat)) + ((0 : Int) + (j : Nat)) * (k : Nat)) % (h.n : Int) = (((i + j * k) % h.n : Nat) : Int) := by
          rw [Int.natCast_emod, Int.natCast_add, Int.natCast_mul, Int.zero_add, Int.zero_add]
        have hs : (i + j * k) % h.n < h.n := Nat.mod_lt _ (by omega)
        have sg := sig_ok h k i j
        have eo : ∀ a : Nat, (((a : Nat) : Int) + (((st : Nat) : Int) + 1)) % (h.n : Int) = (((a + (st + 1)) % h.n : Nat) : Int) := fun a => by
          rw [Int.natCast_emod, Int.natCast_add, Int.natCast_add]; rfl
        have hs2 : ((i + j * k) % h.n + (st + 1)) % h.n < h.n := Nat.mod_lt _ (by omega)
        have ne : ¬ nm (((i + j * k) % h.n + (st + 1)) % h.n) h.B = nm i h.B + nm j (nm k h.B) := by
          intro e
          rw [← sg] at e
          have := nm_inj h.hn.pr h.zero h.ne hs2 hs e
          rcases Nat.lt_or_ge ((i + j * k) % h.n + (st + 1)) h.n with q | q
          · rw [Nat.mod_eq_of_lt q] at this; omega
          · rw [Nat.mod_eq_sub_mod q, Nat.mod_eq_of_lt (by omega)] at this; omega
        have ei : (0 : Int) + (i : Nat) = ((i : Nat) : Int) := by omega
        have ej : (0 : Int) + (j : Nat) = ((j : Nat) : Int) := by omega
        have gi : atI (rowOf h.B h.n) ((0 : Int) + (i : Nat)) = some (encP (nm i h.B).1) := by rw [ei]; exact rowOf_get _ hi
        generalize ((i + j * k) % h.n) = s1' at *
        refine ⟨cmW, by omega, h, nm k h.B, j, s1', ?_, ⟨by omega, by omega⟩, ?_⟩
        · show [_, _, D.int ((0 : Int) + (j : Nat)), D.int ((((0 : Int) + (i : Nat)) + ((0 : Int) + (j : Nat)) * (k : Nat)) % (h.n : Int))] = _
          rw [et, ej]
        refine ⟨_, gi, rfl, same_mk ?_ (pure3 (pure_encP _ _) (pure_int _ _) (pure_int _ _)) ⟨(fun h => nomatch h), fun _ => ?_⟩⟩
        · show D.tup [encP (nm s1' h.B + -nm j (nm k h.B)).1, .int ((j : Nat) : Int), .int ((s1' : Nat) : Int)] = D.tup [encP (nm i h.B).1, .int (0 + (j : Nat)), .int ((((0 : Int) + (i : Nat)) + ((0 : Int) + (j : Nat)) * (k : Nat)) % (h.n : Int))]
          rw [g_sub sg, et, ej]
        refine ⟨_, gi, by omega, rfl, h, nm k h.B, nm s1' h.B + -nm j (nm k h.B), j, s1', rfl, ⟨by omega, by omega⟩, h, nm k h.B, nm i h.B, j, (s1' + (st + 1)) % h.n, ?_, ⟨by omega, by omega⟩, rfl, rfl, same_mk ?_ (pure2 (pure_bl _ _) (pure_bl _ _)) ⟨(fun h => nomatch h), fun _ => ⟨_, _, _, _, rfl⟩⟩⟩
        · show [_, _, D.tup [_, .int (0 + (j : Nat)), .int ((((((0 : Int) + (i : Nat)) + ((0 : Int) + (j : Nat)) * (k : Nat)) % (h.n : Int)) + (((st : Nat) : Int) + 1)) % (h.n : Int))]] = _
          rw [et, ej, eo]
        · rw [dec_true (g_back _ _), decide_eq_false ne]
      · rintro ρ ⟨s11, s12, s13, s14, rfl⟩
        exact ⟨_, _, _, _, _, rfl⟩
    · rintro ρ ⟨s1, s11, s12, s13, s14, rfl⟩
      exact hq
end
end K75
set_option Elab.async false
set_option linter.all false
set_option maxRecDepth 100000
set_option maxHeartbeats 1000000
namespace K75
open PySem PySem.Spec PyProof.Rows L2 Cc Ec
section
variable {P : Program} {w : World} {K : PySem.W.Frag} {mg : Str → Option Value} {base : Heap}
theorem zmul_ne {p : Nat} [Prm p] {a b : Zp p} (ha : a ≠ 0) (hb : b ≠ 0) : a * b ≠ 0 := by
  intro h
  grind
theorem ne27 {p : Nat} [Prm p] (h : 5 ≤ p) : (27 : Zp p) ≠ 0 := by
  have h3 : (3 : Zp p) ≠ 0 := zp_lit_ne (n := 3) (by decide) (by omega)
  have e : (27 : Zp p) = 3 * 3 * 3 := by
    show fi p 27 = fi p 3 * fi p 3 * fi p 3
    rw [fi_mul, fi_mul]
    rfl
  rw [e]
  exact zmul_ne (zmul_ne h3 h3) h3
structure Mid (p : Nat) : Prop where
  pr : Pr p
  five : 5 ≤ p
  lt : p < 999990
  kind : p % 3 = 2 ∨ p % 4 = 3
def SuperOk (V : Cv) : Prop := ∀ X : G V.C, nm (V.p + 1) X = 0
theorem super_ok (V : Cv) (h : (V.p % 3 = 2 ∧ V.C.a = 0) ∨ (V.p % 4 = 3 ∧ V.C.b = 0)) : SuperOk V := fun X => by
  rcases h with ⟨h1, h2⟩ | ⟨h1, h2⟩
  · exact super_a h1 h2 X
  · exact super_b h1 h2 X
theorem X7_zero : nm 7 X7 = 0 :=
  (jm_zero (C := V7.C) (a := 0) (x := 3) (y := 2) (f := 3) (Ec.Zp.ext (by decide)) (by
    show some (z7 3 (by decide), z7 2 (by decide)) = some (fi 7 3, fi 7 2)
    decide) (by decide)).mpr (by decide +kernel)
theorem noDiv_by {n k : Nat} (h : (List.range k).all (fun d => decide (d < 2) || decide (n % d ≠ 0)) = true) : noDiv n k := fun d h1 h2 h3 => by
  have := List.all_eq_true.mp h d (List.mem_range.mpr h2)
  rw [Bool.or_eq_true] at this
  rcases this with q | q
  · have := of_decide_eq_true q; omega
  · exact (of_decide_eq_true q) (Nat.mod_eq_zero_of_dvd h3)
theorem mid_999983 : Mid 999983 := ⟨pr_of (k := 1000) (by decide) (noDiv_by (by decide +kernel)) (by decide), by decide, by decide, by decide⟩
/-! _law_middling: slots 0 deal, 1 p, 2 turn -/
def sp__law_middling : Spd := fun ds Q => ds = [.deal] ∧ ∀ p : Nat, Mid p → Q (.int p)
theorem sc__law_middling : FnScope ["deal", "p", "turn"] ["deal"] (defScope (top 91)) := ⟨rfl, rfl, rfl, by decide +kernel, rfl, by decide +kernel, by decide +kernel⟩
theorem ok__law_middling (A : Kt K mg base) : FnAt P w K mg base 3 "_law_middling" ["deal"] sp__law_middling := by
  obtain ⟨fd, F⟩ := A.fn 68 (d := dd "_law_middling" 91)
  refine fn_mk (A.glo 68) F sc__law_middling (by decide) (fun _ _ _ _ _ _ us hl => match us, hl with | [_], _ => rfl) ?_ ?_
  · intro ds Q h
    obtain ⟨rfl, hq⟩ := h
    rfl
  · intro E cdv A' outer s H Ex ds Qd hr h
    obtain ⟨rfl, hq⟩ := h
    refine ⟨_, (pssc_cons (psc_set (i := 1) sc__law_middling.nd (pec_addI pec_int (pec_mul pec_int (pec_call (ok__law_any A) (hr.mono (by decide)) (pac_cons (pec_var (i := 0)) (pac_cons pec_int pac_nil))))))
      (pssc_cons (psc_forR1 .never rfl (A.free 103) (pac_cons pec_int pac_nil) (pgc_name (i := 2) sc__law_middling.nd) (pssc_cons (psc_if (PWc.pt (pwc_and (pte_gt (pec_mod (pec_intc (A.free 99) (pac_cons (pec_var (i := 1)) pac_nil)) pec_int) pec_int) (pwc_and (pte_ne hr.units (pec_mod (pec_intc (A.free 99) (pac_cons (pec_var (i := 1)) pac_nil)) pec_int) pec_int) (pwc_and1 (ptc_val (pec_call (ok__law_is_prime A) (hr.mono (by decide)) (pac_cons (pec_var (i := 1)) pac_nil))))))) (pssc_one (psc_ret (pec_var (i := 1)))) pssc_nil)
      (pssc_one (psc_addI (i := 1) sc__law_middling.nd pec_int))))
      (pssc_one (psc_ret pec_int)))), ?_⟩
    refine ⟨499000, rfl, ⟨by decide, by decide⟩, fun r hr => ?_⟩
    haveI : Sz 20 ((r : Nat) : Int) := ⟨by omega⟩
    refine ⟨cmW, ⟨by decide, by decide⟩, fun i ρ => ∃ (p : Nat) (s2 : Cc.Sl), ρ = [.d .deal, .d (.int p), s2] ∧ i ≤ 300 ∧ p = 5 + 2 * r + 2 * i, ⟨5 + 2 * r, .no, ?_, by omega, rfl⟩, ?_, ?_⟩
    · show [_, Cc.Sl.d (.int (5 + 2 * ((r : Nat) : Int))), _] = _
      rw [show 5 + 2 * ((r : Nat) : Int) = ((5 + 2 * r : Nat) : Int) by omega]
    · rintro i ρ hi ⟨p, s2, rfl, hi2, hp⟩
      have hi : i < 300 := hi
      have nxt : ∃ (p' : Nat) (s2 : Cc.Sl), ([.d .deal, .d (.int (((p : Nat) : Int) + 2)), .d (.int (0 + (i : Nat)))] : En) = [.d .deal, .d (.int p'), s2] ∧ i + 1 ≤ 300 ∧ p' = 5 + 2 * r + 2 * (i + 1) := ⟨p + 2, .d (.int (0 + (i : Nat))), by rw [show ((p : Nat) : Int) + 2 = ((p + 2 : Nat) : Int) by omega], by omega, by omega⟩
      refine ⟨(show (0 : Int) < 3 by decide), fun h3 => ⟨(show (0 : Int) < 12 by decide), fun h12 => ⟨p, rfl, ⟨by omega, by omega⟩, fun pr => ⟨fun _ => ?_, (fun h => nomatch h)⟩, fun _ => ⟨(fun h => nomatch h), fun _ => nxt⟩⟩, fun _ => ⟨(fun h => nomatch h), fun _ => nxt⟩⟩, fun _ => ⟨(fun h => nomatch h), fun _ => nxt⟩⟩
      have h3 : (0 : Int) < ((p : Nat) : Int) % 3 := of_decide_eq_true h3
      have h12 : ((p : Nat) : Int) % 12 ≠ 1 := by simpa using h12
      exact hq p ⟨pr, by omega, by omega, by omega⟩
    · rintro ρ ⟨p, s2, rfl, _, _⟩
      exact hq 999983 mid_999983
/-! _law_even: slots 0 deal, 1 p, 2 turn, 3 spot, 4 a, 5 cubic -/
def sp__law_even : Spd := fun ds Q => ∃ p : Nat, ds = [.deal, .int p] ∧ Mid p ∧ ∀ (V : Cv) (X : G V.C), V.p = p → SuperOk V → Q (.lst [encC V, encP X.1])
theorem sc__law_even : FnScope ["deal", "p", "turn", "spot", "a", "cubic"] ["deal", "p"] (defScope (top 92)) := ⟨rfl, rfl, rfl, by decide +kernel, rfl, by decide +kernel, by decide +kernel⟩
theorem ok__law_even (A : Kt K mg base) : FnAt P w K mg base 3 "_law_even" ["deal", "p"] sp__law_even := by
  obtain ⟨fd, F⟩ := A.fn 69 (d := dd "_law_even" 92)
  refine fn_mk (A.glo 69) F sc__law_even (by decide) (fun _ _ _ _ _ _ us hl => match us, hl with | [_, _], _ => rfl) ?_ ?_
  · intro ds Q h
    obtain ⟨p, rfl, hp, hq⟩ := h
    rfl
  · intro E cdv A' outer s H Ex ds Qd hr h
    obtain ⟨p, rfl, hp, hq⟩ := h
    refine ⟨_, (pssc_cons (psc_forR1 .never rfl (A.free 103) (pac_cons pec_int pac_nil) (pgc_name (i := 2) sc__law_even.nd) (pssc_cons (psc_set (i := 3) sc__law_even.nd (pec_tup (pac_cons (pec_addI pec_int (pec_call (ok__law_any A) (hr.mono (by decide)) (pac_cons (pec_var (i := 0)) (pac_cons (pec_sub (pec_var (i := 1)) pec_int) pac_nil)))) (pac_cons (pec_call (ok__law_any A) (hr.mono (by decide)) (pac_cons (pec_var (i := 0)) (pac_cons (pec_var (i := 1)) pac_nil))) pac_nil))))
      (pssc_cons (psc_set (i := 4) sc__law_even.nd pec_int)
      (pssc_cons (psc_if (PWc.pt (pwc_or (pte_ne hr.units (pec_mod (pec_intc (A.free 99) (pac_cons (pec_var (i := 1)) pac_nil)) pec_int) pec_int) (pwc_or1 (PWc.pt (pwc_and (pte_eq hr.units (pec_mod (pec_intc (A.free 99) (pac_cons (pec_var (i := 1)) pac_nil)) pec_int) pec_int) (pwc_and1 (pte_eq hr.units (pec_call (ok__law_any A) (hr.mono (by decide)) (pac_cons (pec_var (i := 0)) (pac_cons pec_int pac_nil))) pec_int))))))) (pssc_one (psc_set (i := 4) sc__law_even.nd (pec_mod (pec_intc (A.free 99) (pac_cons (pec_mul (pec_sub (pec_mul (pec_item (k := 1) (pec_var (i := 3))) (pec_item (k := 1) (pec_var (i := 3)))) (pec_mul (pec_mul (pec_item (k := 0) (pec_var (i := 3))) (pec_item (k := 0) (pec_var (i := 3)))) (pec_item (k := 0) (pec_var (i := 3))))) (pec_call (ok__law_back A) (hr.mono (by decide)) (pac_cons (pec_var (i := 1)) (pac_cons (pec_item (k := 0) (pec_var (i := 3))) pac_nil)))) pac_nil)) (pec_var (i := 1))))) pssc_nil)
      (pssc_cons (psc_set (i := 5) sc__law_even.nd (pec_call (ok__law_through A) (hr.mono (by decide)) (pac_cons (pec_var (i := 1)) (pac_cons (pec_var (i := 4)) (pac_cons (pec_var (i := 3)) pac_nil)))))
      (pssc_one (psc_if (ptc_not (ptc_val (pec_call (ok__law_is_flat A) (hr.mono (by decide)) (pac_cons (pec_var (i := 5)) pac_nil)))) (pssc_one (psc_ret (pec_lst (pac_cons (pec_var (i := 5)) (pac_cons (pec_var (i := 3)) pac_nil))))) pssc_nil)))))))
      (pssc_one (psc_ret (pec_ifExp (pte_eq hr.units (pec_mod (pec_intc (A.free 99) (pac_cons (pec_var (i := 1)) pac_nil)) pec_int) pec_int) (pec_lst (pac_cons (pec_tup (pac_cons (pec_var (i := 1)) (pac_cons pec_int (pac_cons pec_int pac_nil)))) (pac_cons (pec_tup (pac_cons pec_int (pac_cons pec_int pac_nil))) pac_nil))) (pec_lst (pac_cons (pec_tup (pac_cons (pec_var (i := 1)) (pac_cons (pec_sub (pec_var (i := 1)) pec_int) (pac_cons pec_int pac_nil)))) (pac_cons (pec_tup (pac_cons pec_int (pac_cons pec_int pac_nil))) pac_nil))))))), ?_⟩
    haveI hpr : Prm p := ⟨hp.pr⟩
    have p5 := hp.five
    have plt := hp.lt
    haveI hbd : Bd p := ⟨by omega⟩
    have kd := hp.kind
    have done : ∀ (a x y : Zp p), (4 * a * a * a + 27 * (y * y - x * x * x - a * x) * (y * y - x * x * x - a * x) ≠ 0) → ((p % 3 = 2 ∧ a = 0) ∨ (p % 4 = 3 ∧ y * y - x * x * x - a * x = 0)) → Qd (.lst [.tup [.int p, .int a.v, .int (y * y - x * x * x - a * x).v], .tup [.int x.v, .int y.v]]) := by
      intro a x y ns hk
      exact hq (mkV p hpr hbd p5 a _ ns) (mkX ns) rfl (super_ok _ hk)
    refine ⟨⟨by decide, by decide⟩, fun i ρ => ∃ s2 s3 s4 s5, ρ = [.d .deal, .d (.int p), s2, s3, s4, s5], ⟨_, _, _, _, rfl⟩, ?_, ?_⟩
    · rintro i ρ hi ⟨s2, s3, s4, s5, rfl⟩
      refine ⟨p - 1, ?_, ⟨by omega, by omega⟩, fun r hr => ⟨p, rfl, ⟨by omega, by omega⟩, fun y hy => ⟨rfl, ?_⟩⟩⟩
      · show [_, D.int (((p : Nat) : Int) - 1)] = _
        rw [show ((p : Nat) : Int) - 1 = ((p - 1 : Nat) : Int) by omega]
      obtain ⟨x, ex, x0⟩ : ∃ x : Zp p, (1 : Int) + ((r : Nat) : Int) = x.v ∧ x ≠ 0 := ⟨⟨(1 : Int) + ((r : Nat) : Int), by omega, by omega⟩, rfl, fun h => by
        have := congrArg Ec.Zp.v h
        rw [zp_zero_v] at this
        have this : (1 : Int) + ((r : Nat) : Int) = 0 := this
        omega⟩
      obtain ⟨y', ey⟩ : ∃ y' : Zp p, ((y : Nat) : Int) = y'.v := ⟨⟨y, by omega, by omega⟩, rfl⟩
      dsimp only
      rw [ex, ey]
      refine dseq_mid (ts := dSet _ _) (us := dSeq _ _) (fun ρ => ρ = [.d .deal, .d (.int p), .d (.int (0 + (i : Nat))), .d (.tup [.int x.v, .int y'.v]), .d (.int 0), s5]) (fun nx hnx => hnx _ rfl) ?_
      rintro ρ rfl
      refine dseq_mid (ts := dIfS _ _ _) (us := dSeq _ _) (fun ρ => ∃ a : Zp p, ρ = [.d .deal, .d (.int p), .d (.int (0 + (i : Nat))), .d (.tup [.int x.v, .int y'.v]), .d (.int a.v), s5] ∧ ((p % 3 = 2 ∧ a = 0) ∨ (p % 4 = 3 ∧ y' * y' - x * x * x - a * x = 0))) ?_ ?_
      · intro nx hnx
        have set : p % 4 = 3 → (dSet 4 (dOp (II (fun _ j => 0 < j) fun i j => .int (i % j)) (dCB RInt (dCons (dOp (II CMulW fun i j => .int (i * j)) (dOp (II0 fun i j => .int (i - j)) (dOp (II CMulW fun i j => .int (i * j)) (dItem 1 (dVar 3)) (dItem 1 (dVar 3))) (dOp (II CMulW fun i j => .int (i * j)) (dOp (II CMulW fun i j => .int (i * j)) (dItem 0 (dVar 3)) (dItem 0 (dVar 3))) (dItem 0 (dVar 3)))) (dCall sp__law_back (dCons (dVar 1) (dCons (dItem 0 (dVar 3)) dNil)))) dNil)) (dVar 1))) ⟨nx, fun _ => False, fun _ => False, fun _ => False⟩ [.d .deal, .d (.int p), .d (.int (0 + (i : Nat))), .d (.tup [.int x.v, .int y'.v]), .d (.int 0), s5] := fun h4 => by
          refine ⟨cmW, cmW, cmW, p, hpr, hbd, x.v, rfl, by rw [fi_val]; exact x0, cmW, ppos p, hnx _ ⟨fi p ((y'.v * y'.v - x.v * x.v * x.v) * (fi p x.v)⁻¹.v), rfl, .inr ⟨h4, ?_⟩⟩⟩
          simp only [fi_mul', fi_sub', fi_val]
          grind
        refine ⟨(show (0 : Int) < 3 by decide), fun h3 => ⟨fun _ => set ?_, (fun h => nomatch h)⟩, fun h3 => ⟨(show (0 : Int) < 4 by decide), fun h4 => ⟨2, rfl, ⟨by decide, by decide⟩, fun c hc => ⟨fun _ => set ?_, fun _ => hnx _ ⟨⟨0, by omega, by omega⟩, rfl, .inl ⟨?_, Ec.Zp.ext zp_zero_v.symm⟩⟩⟩⟩, fun _ => ⟨(fun h => nomatch h), fun _ => hnx _ ⟨⟨0, by omega, by omega⟩, rfl, .inl ⟨?_, Ec.Zp.ext zp_zero_v.symm⟩⟩⟩⟩⟩
        · have h3 : ¬ ((p : Nat) : Int) % 3 = 2 := by simpa using h3
          omega
        · have h4 : ((p : Nat) : Int) % 4 = 3 := of_decide_eq_true h4
          omega
        · have h3 : ((p : Nat) : Int) % 3 = 2 := by simpa using h3
          omega
        · have h3 : ((p : Nat) : Int) % 3 = 2 := by simpa using h3
          omega
      · rintro ρ ⟨a, rfl, hk⟩
        refine ⟨p, hpr, hbd, a, x, y', rfl, p, hpr, hbd, a, _, rfl, fun hb => ?_, fun _ => ⟨_, _, _, _, rfl⟩⟩
        refine ⟨rfl, done a x y' (fun q => ?_) hk⟩
        rw [decide_eq_true q] at hb
        cases hb
    · rintro ρ ⟨s2, s3, s4, s5, rfl⟩
      have z : ∀ h1 h2, (⟨0, h1, h2⟩ : Zp p) = 0 := fun h1 h2 => Ec.Zp.ext zp_zero_v.symm
      have o1 : ∀ h1 h2, (⟨1, h1, h2⟩ : Zp p) = 1 := fun h1 h2 => Ec.Zp.ext zp_one_v.symm
      have v0 : (0 : Zp p).v = 0 := zp_zero_v
      have v1 : (1 : Zp p).v = 1 := zp_one_v
      have l27 : (27 : Zp p) ≠ 0 := ne27 p5
      have l4 : (4 : Zp p) ≠ 0 := zp_lit_ne (n := 4) (by decide) (by omega)
      refine ⟨(show (0 : Int) < 3 by decide), fun h3 => ?_, fun h3 => ?_⟩
      · have h3 : ((p : Nat) : Int) % 3 = 2 := of_decide_eq_true h3
        have := done 0 0 1 (by grind) (.inl ⟨by omega, rfl⟩)
        have e : (1 * 1 - 0 * 0 * 0 - 0 * 0 : Zp p) = 1 := by grind
        rw [e, v0, v1] at this
        exact ⟨rfl, rfl, rfl, this⟩
      · have h3 : ¬ ((p : Nat) : Int) % 3 = 2 := of_decide_eq_false h3
        have h4 : p % 4 = 3 := by omega
        have := done (-1) 1 0 (by grind) (.inr ⟨h4, by grind⟩)
        have e : (0 * 0 - 1 * 1 * 1 - -1 * 1 : Zp p) = 0 := by grind
        have em : (-1 : Zp p).v = (p : Int) - 1 := by
          show (-(1 : Zp p).v) % (p : Int) = _
          rw [v1, show (-1 : Int) = (p : Int) - 1 + (p : Int) * (-1) by omega, Int.add_mul_emod_self_left]
          exact Int.emod_eq_of_lt (by omega) (by omega)
        rw [e, em, v0, v1] at this
        exact ⟨rfl, rfl, rfl, this⟩
/-! _law_middling_home: slots 0 deal, 1 p, 2 order, 3 turn, 4 cubic, 5 spot, 6 start -/
theorem mid_small : (3 : Nat) < 4 := by decide
def sp__law_middling_home : Spd := fun ds Q => ds = [.deal] ∧ ∀ (h : Hm) (L : G h.V.C), Q (.lst [encH h, encP L.1])
def hm7 : Hm := ⟨V7, 7, inferInstance, inferInstance, X7, X7_zero, X7_ne⟩
def Y7 : G V7.C := ⟨some (z7 5 (by decide), z7 2 (by decide)), by show z7 2 (by decide) * z7 2 (by decide) = z7 5 (by decide) * z7 5 (by decide) * z7 5 (by decide) + z7 0 (by decide) * z7 5 (by decide) + z7 5 (by decide); decide⟩
theorem sc__law_middling_home : FnScope ["deal", "p", "order", "turn", "cubic", "spot", "start"] ["deal"] (defScope (top 93)) := ⟨rfl, rfl, rfl, by decide +kernel, rfl, by decide +kernel, by decide +kernel⟩
theorem ok__law_middling_home (A : Kt K mg base) : FnAt P w K mg base 4 "_law_middling_home" ["deal"] sp__law_middling_home := by
  obtain ⟨fd, F⟩ := A.fn 70 (d := dd "_law_middling_home" 93)
  refine fn_mk (A.glo 70) F sc__law_middling_home (by decide) (fun _ _ _ _ _ _ us hl => match us, hl with | [_], _ => rfl) ?_ ?_
  · intro ds Q h
    obtain ⟨rfl, hq⟩ := h
    rfl
  · intro E cdv A' outer s H Ex ds Qd hr h
    obtain ⟨rfl, hq⟩ := h
    refine ⟨_, (pssc_cons (psc_set (i := 1) sc__law_middling_home.nd (pec_call (ok__law_middling A) (hr.mono (by decide)) (pac_cons (pec_var (i := 0)) pac_nil)))
      (pssc_cons (psc_asg (pec_call (ok__law_even A) (hr.mono (by decide)) (pac_cons (pec_var (i := 0)) (pac_cons (pec_var (i := 1)) pac_nil))) (pgc_lst rfl (pgsc_cons (pgc_name (i := 4) sc__law_middling_home.nd) (pgsc_cons (pgc_name (i := 5) sc__law_middling_home.nd) pgsc_nil))))
      (pssc_cons (psc_set (i := 2) sc__law_middling_home.nd (pec_call (ok__law_of A) (hr.mono (by decide)) (pac_cons (pec_var (i := 0)) (pac_cons (pec_call (ok__law_primes_of A) (hr.mono (by decide)) (pac_cons (pec_addI (pec_var (i := 1)) pec_int) pac_nil)) pac_nil))))
      (pssc_cons (psc_forR1 .never rfl (A.free 103) (pac_cons pec_int pac_nil) (pgc_name (i := 3) sc__law_middling_home.nd) (pssc_cons (psc_set (i := 6) sc__law_middling_home.nd (pec_call (ok__law_times A) (hr.mono (by decide)) (pac_cons (pec_var (i := 4)) (pac_cons (pec_var (i := 5)) (pac_cons (pec_div (pec_addI (pec_var (i := 1)) pec_int) (pec_var (i := 2))) pac_nil)))))
      (pssc_cons (psc_if (pte_ne hr.units (pec_var (i := 6)) (pec_tup pac_nil)) (pssc_one (psc_ret (pec_lst (pac_cons (pec_tup (pac_cons (pec_var (i := 4)) (pac_cons (pec_var (i := 6)) (pac_cons (pec_var (i := 2)) pac_nil)))) (pac_cons (pec_var (i := 5)) pac_nil))))) pssc_nil)
      (pssc_one (psc_asg (pec_call (ok__law_even A) (hr.mono (by decide)) (pac_cons (pec_var (i := 0)) (pac_cons (pec_var (i := 1)) pac_nil))) (pgc_lst rfl (pgsc_cons (pgc_name (i := 4) sc__law_middling_home.nd) (pgsc_cons (pgc_name (i := 5) sc__law_middling_home.nd) pgsc_nil))))))))
      (pssc_one (psc_ret (pec_lst (pac_cons (pec_tup (pac_cons (pec_tup (pac_cons pec_int (pac_cons pec_int (pac_cons pec_int pac_nil)))) (pac_cons (pec_tup (pac_cons pec_int (pac_cons pec_int pac_nil))) (pac_cons pec_int pac_nil)))) (pac_cons (pec_tup (pac_cons pec_int (pac_cons pec_int pac_nil))) pac_nil))))))))), ?_⟩
    refine ⟨rfl, fun p hp => ⟨p, rfl, hp, fun V X hV hS => ⟨rfl, ?_⟩⟩⟩
    have p5 := hp.five
    have plt := hp.lt
    refine ⟨p + 1, ?_, ⟨by omega, by omega⟩, fun qs hq0 hql hqs => ?_⟩
    · show [D.int (((p : Nat) : Int) + 1)] = _
      rw [show ((p : Nat) : Int) + 1 = ((p + 1 : Nat) : Int) by omega]
    refine ⟨_, rfl, ⟨by rw [List.length_map]; exact List.length_pos_iff.mpr hq0, by rw [List.length_map]; omega⟩, fun d hd => ?_⟩
    obtain ⟨q, hqm, rfl⟩ := List.mem_map.mp hd
    obtain ⟨pq, dq⟩ := hqs q hqm
    have q2 := pq.1
    have qle := Nat.le_of_dvd (by omega) dq
    refine ⟨⟨by decide, by decide⟩, fun i ρ => ∃ (V : Cv) (X : G V.C) (s3 s6 : Cc.Sl), ρ = [.d .deal, .d (.int p), .d (.int q), s3, .d (encC V), .d (encP X.1), s6] ∧ V.p = p ∧ SuperOk V, ⟨V, X, .no, .no, rfl, hV, hS⟩, ?_, ?_⟩
    · rintro i ρ hi ⟨V, X, s3, s6, rfl, hV, hS⟩
      haveI : Sz 61 ((q : Nat) : Int) := ⟨by omega⟩
      have ed : (((p : Nat) : Int) + 1) / ((q : Nat) : Int) = (((p + 1) / q : Nat) : Int) := by
        rw [Int.natCast_ediv]; rfl
      have hle : (p + 1) / q ≤ p + 1 := Nat.div_le_self _ _
      refine ⟨cdW (by omega), V, X, (p + 1) / q, ?_, by generalize (p + 1) / q = k at hle; omega, rfl, eq_encP (Y := none) (f := not) ⟨fun hb => ?_, fun _ => ?_⟩⟩
      · show [_, _, D.int ((((p : Nat) : Int) + 1) / ((q : Nat) : Int))] = _
        rw [ed]
      · have ne : nm ((p + 1) / q) X ≠ 0 := fun e => by
          rw [e, decide_eq_true (show (0 : G V.C).1 = none from rfl)] at hb
          cases hb
        have hz : nm q (nm ((p + 1) / q) X) = 0 := by
          rw [← nm_mul, Nat.mul_comm, Nat.div_mul_cancel dq, ← hV]
          exact hS X
        exact ⟨rfl, rfl, hq ⟨V, q, ⟨pq⟩, ⟨by omega⟩, nm ((p + 1) / q) X, hz, ne⟩ X⟩
      · exact ⟨p, rfl, hp, fun V' X' hV' hS' => ⟨rfl, V', X', .d (.int (0 + (i : Nat))), .d (encP (nm ((p + 1) / q) X).1), rfl, hV', hS'⟩⟩
    · rintro ρ ⟨V, X, s3, s6, rfl, hV, hS⟩
      exact ⟨rfl, rfl, rfl, rfl, rfl, hq hm7 Y7⟩
end
end K75
set_option Elab.async false
set_option linter.all false
set_option maxRecDepth 100000
set_option maxHeartbeats 1000000
namespace K75
open PySem PySem.Spec PyProof.Rows L2 Cc Ec
section
variable {P : Program} {w : World} {K : PySem.W.Frag} {mg : Str → Option Value} {base : Heap}
/-- a written row: a curve, a point, a cofactor, a prime order -/
structure Row where
  V : Cv
  x : Zp V.p
  y : Zp V.p
  on : On V.C.a V.C.b (some (x, y))
  part : Nat
  n : Nat
  hn : Prm n
  hb : Bd n
  hp : part < 2 ^ 61
  zero : nm n (nm part (⟨some (x, y), on⟩ : G V.C)) = 0
  ne : nm part (⟨some (x, y), on⟩ : G V.C) ≠ 0
def encRow (R : Row) : D := .tup [.int R.V.p, .int R.V.C.a.v, .int R.V.C.b.v, .int R.x.v, .int R.y.v, .int R.part, .int R.n]
def writ : List (List Int) :=
  [[594901695064942613,
   0,
   90852140382488038,
   298169023351377261,
   131836277379869994,
   6,
   99150282510823769],
  [899238936125104507,
   623973976319992478,
   0,
   687794221188787259,
   807095951183896993,
   4,
   224809734031276127],
  [120278809101100207,
   82513242152874884,
   0,
   93780419591815839,
   45424875311091136,
   208,
   578263505293751],
  [352326624354036391,
   289126310759103258,
   0,
   125246537664148163,
   68673023204271518,
   184,
   1914818610619763],
  [99091637768947,
   20584471948745,
   0,
   53576424004011,
   75867721549579,
   44,
   2252082676567],
  [588725638387,
   188717398484,
   0,
   41914573633,
   54616719952,
   86,
   3422823479],
  [1821829571,
   0,
   1634240666,
   652401904,
   1589822726,
   36,
   50606377],
  [774433031,
   325142080,
   0,
   398737372,
   87845304,
   636,
   608831],
  [2212303532847329197,
   0,
   1824466717961184412,
   102015373044761190,
   1463740985063553635,
   1,
   2212303535815635049],
  [2150700796752796201,
   515840155116946368,
   865885675462993822,
   1452693047535041398,
   859990042561427534,
   1,
   2150700795673398379],
  [1926943613474338313,
   1374885447456909454,
   436242632932860494,
   350978973582228697,
   491118496815289747,
   1,
   1926943615318767779],
  [2301585953296446589,
   1368478552696552520,
   1846687788228677404,
   665900373099848999,
   371873813362155928,
   1,
   2301585952097452199],
  [1719497881273,
   452180237254,
   553388086810,
   875718680840,
   664840696409,
   1,
   1719497264141],
  [2244831401168306833,
   271471371013712769,
   320358714379868781,
   1333256753048411740,
   283002587439464484,
   1,
   561207850761843853],
  [2142447591194365561,
   188822605727690642,
   0,
   345862950931730521,
   112485659042763387,
   3,
   59512433041402177],
  [2231826216886531999,
   1733345577326691053,
   1984271757643749453,
   231343828341483905,
   1143277214346086193,
   3,
   247980690765529417],
  [2285464615791415153,
   0,
   1114733071262688128,
   555091008305402546,
   973405688177621739,
   21,
   108831648503494237],
  [2134867170861007381,
   0,
   97962576839668373,
   1938332153355055743,
   701153342830516272,
   1,
   2134867170861007381],
  [2107237691082081319,
   105850534895467864,
   2043193640250352255,
   556264940121881033,
   701250474754641713,
   1,
   2107237691082081319],
  [1825769300335762361,
   182914559178613633,
   1725427160719257881,
   761442678309067784,
   1100903530146038984,
   1,
   1825769300335762361]]
def writD : List D := writ.map fun r => .tup (r.map D.int)
theorem row_mk (p a b x y part n : Nat) (hp : Pr p) (hn : Pr n) (h : @ckR p a b x y part n = true) : ∃ R : Row, D.tup [.int (p : Int), .int (a : Int), .int (b : Int), .int (x : Int), .int (y : Int), .int (part : Int), .int (n : Int)] = encRow R := by
  haveI : Prm p := ⟨hp⟩
  obtain ⟨⟨h5, hb, hnb, hpb⟩, C, X, Y, on, ea, eb, ex, ey, hz, hne⟩ := ckR_ok h
  refine ⟨⟨⟨p, inferInstance, ⟨hb⟩, h5, C⟩, X, Y, on, part, n, ⟨hn⟩, ⟨hnb⟩, hpb, hz, hne⟩, ?_⟩
  show _ = D.tup [.int (p : Int), .int C.a.v, .int C.b.v, .int X.v, .int Y.v, .int (part : Int), .int (n : Int)]
  rw [ea, eb, ex, ey]
theorem wr_nil {P : D → Prop} : ∀ d ∈ ([] : List D), P d := fun _ h => nomatch h
theorem wr_cons {P : D → Prop} {x : D} {l : List D} (h : P x) (r : ∀ d ∈ l, P d) : ∀ d ∈ x :: l, P d := fun d hd => by
  rcases List.mem_cons.mp hd with rfl | q
  · exact h
  · exact r d q
theorem writ_ok : ∀ d ∈ writD, ∃ R : Row, d = encRow R :=
  wr_cons (row_mk 594901695064942613 0 90852140382488038 298169023351377261 131836277379869994 6 99150282510823769 pr_594901695064942613 pr_99150282510823769 row_0) <| wr_cons (row_mk 899238936125104507 623973976319992478 0 687794221188787259 807095951183896993 4 224809734031276127 pr_899238936125104507 pr_224809734031276127 row_1) <| wr_cons (row_mk 120278809101100207 82513242152874884 0 93780419591815839 45424875311091136 208 578263505293751 pr_120278809101100207 pr_578263505293751 row_2) <| wr_cons (row_mk 352326624354036391 289126310759103258 0 125246537664148163 68673023204271518 184 1914818610619763 pr_352326624354036391 pr_1914818610619763 row_3) <| wr_cons (row_mk 99091637768947 20584471948745 0 53576424004011 75867721549579 44 2252082676567 pr_99091637768947 pr_2252082676567 row_4) <| wr_cons (row_mk 588725638387 188717398484 0 41914573633 54616719952 86 3422823479 pr_588725638387 pr_3422823479 row_5) <| wr_cons (row_mk 1821829571 0 1634240666 652401904 1589822726 36 50606377 pr_1821829571 pr_50606377 row_6) <| wr_cons (row_mk 774433031 325142080 0 398737372 87845304 636 608831 pr_774433031 pr_608831 row_7) <| wr_cons (row_mk 2212303532847329197 0 1824466717961184412 102015373044761190 1463740985063553635 1 2212303535815635049 pr_2212303532847329197 pr_2212303535815635049 row_8) <| wr_cons (row_mk 2150700796752796201 515840155116946368 865885675462993822 1452693047535041398 859990042561427534 1 2150700795673398379 pr_2150700796752796201 pr_2150700795673398379 row_9) <| wr_cons (row_mk 1926943613474338313 1374885447456909454 436242632932860494 350978973582228697 491118496815289747 1 1926943615318767779 pr_1926943613474338313 pr_1926943615318767779 row_10) <| wr_cons (row_mk 2301585953296446589 1368478552696552520 1846687788228677404 665900373099848999 371873813362155928 1 2301585952097452199 pr_2301585953296446589 pr_2301585952097452199 row_11) <| wr_cons (row_mk 1719497881273 452180237254 553388086810 875718680840 664840696409 1 1719497264141 pr_1719497881273 pr_1719497264141 row_12) <| wr_cons (row_mk 2244831401168306833 271471371013712769 320358714379868781 1333256753048411740 283002587439464484 1 561207850761843853 pr_2244831401168306833 pr_561207850761843853 row_13) <| wr_cons (row_mk 2142447591194365561 188822605727690642 0 345862950931730521 112485659042763387 3 59512433041402177 pr_2142447591194365561 pr_59512433041402177 row_14) <| wr_cons (row_mk 2231826216886531999 1733345577326691053 1984271757643749453 231343828341483905 1143277214346086193 3 247980690765529417 pr_2231826216886531999 pr_247980690765529417 row_15) <| wr_cons (row_mk 2285464615791415153 0 1114733071262688128 555091008305402546 973405688177621739 21 108831648503494237 pr_2285464615791415153 pr_108831648503494237 row_16) <| wr_cons (row_mk 2134867170861007381 0 97962576839668373 1938332153355055743 701153342830516272 1 2134867170861007381 pr_2134867170861007381 pr_2134867170861007381 row_17) <| wr_cons (row_mk 2107237691082081319 105850534895467864 2043193640250352255 556264940121881033 701250474754641713 1 2107237691082081319 pr_2107237691082081319 pr_2107237691082081319 row_18) <| wr_cons (row_mk 1825769300335762361 182914559178613633 1725427160719257881 761442678309067784 1100903530146038984 1 1825769300335762361 pr_1825769300335762361 pr_1825769300335762361 row_19) <| wr_nil
def wpair : List (Str × Str) :=
  [(Str.ofString ")zk#YGJ~", Str.ofString "dd/gxYGo"),
   (Str.ofString "E1vn0@gf", Str.ofString "B(>7J8pg"),
   (Str.ofString "F-G}Y>f", Str.ofString "bF mNs@"),
   (Str.ofString "2c!g*<EO", Str.ofString "2'RQ>C5Z"),
   (Str.ofString ".<RL`t", Str.ofString ">N>0WC"),
   (Str.ofString "Fj&uJ", Str.ofString "Qf*Hn"),
   (Str.ofString "kqaD", Str.ofString "w^(("),
   (Str.ofString "e?a", Str.ofString "nw_")]
def wpairD : List D := wpair.map fun p => .tup [.str p.1, .str p.2]
/-! _law_written: slots  -/
def sp__law_written : Spd := fun ds Q => ds = [] ∧ Q (.lst writD)
theorem sc__law_written : FnScope [] [] (defScope (top 94)) := ⟨rfl, rfl, rfl, by decide +kernel, rfl, by decide +kernel, by decide +kernel⟩
theorem ok__law_written (A : Kt K mg base) : FnAt P w K mg base 1 "_law_written" [] sp__law_written := by
  obtain ⟨fd, F⟩ := A.fn 71 (d := dd "_law_written" 94)
  refine fn_mk (A.glo 71) F sc__law_written (by decide) (fun _ _ _ _ _ _ us hl => match us, hl with | [], _ => rfl) ?_ ?_
  · intro ds Q h
    obtain ⟨rfl, hq⟩ := h
    rfl
  · intro E cdv A' outer s H Ex ds Qd hr h
    obtain ⟨rfl, hq⟩ := h
    refine ⟨_, (pssc_one (psc_ret (pec_lst (pac_cons (pec_tup (pac_cons pec_int (pac_cons pec_int (pac_cons pec_int (pac_cons pec_int (pac_cons pec_int (pac_cons pec_int (pac_cons pec_int pac_nil)))))))) (pac_cons (pec_tup (pac_cons pec_int (pac_cons pec_int (pac_cons pec_int (pac_cons pec_int (pac_cons pec_int (pac_cons pec_int (pac_cons pec_int pac_nil)))))))) (pac_cons (pec_tup (pac_cons pec_int (pac_cons pec_int (pac_cons pec_int (pac_cons pec_int (pac_cons pec_int (pac_cons pec_int (pac_cons pec_int pac_nil)))))))) (pac_cons (pec_tup (pac_cons pec_int (pac_cons pec_int (pac_cons pec_int (pac_cons pec_int (pac_cons pec_int (pac_cons pec_int (pac_cons pec_int pac_nil)))))))) (pac_cons (pec_tup (pac_cons pec_int (pac_cons pec_int (pac_cons pec_int (pac_cons pec_int (pac_cons pec_int (pac_cons pec_int (pac_cons pec_int pac_nil)))))))) (pac_cons (pec_tup (pac_cons pec_int (pac_cons pec_int (pac_cons pec_int (pac_cons pec_int (pac_cons pec_int (pac_cons pec_int (pac_cons pec_int pac_nil)))))))) (pac_cons (pec_tup (pac_cons pec_int (pac_cons pec_int (pac_cons pec_int (pac_cons pec_int (pac_cons pec_int (pac_cons pec_int (pac_cons pec_int pac_nil)))))))) (pac_cons (pec_tup (pac_cons pec_int (pac_cons pec_int (pac_cons pec_int (pac_cons pec_int (pac_cons pec_int (pac_cons pec_int (pac_cons pec_int pac_nil)))))))) (pac_cons (pec_tup (pac_cons pec_int (pac_cons pec_int (pac_cons pec_int (pac_cons pec_int (pac_cons pec_int (pac_cons pec_int (pac_cons pec_int pac_nil)))))))) (pac_cons (pec_tup (pac_cons pec_int (pac_cons pec_int (pac_cons pec_int (pac_cons pec_int (pac_cons pec_int (pac_cons pec_int (pac_cons pec_int pac_nil)))))))) (pac_cons (pec_tup (pac_cons pec_int (pac_cons pec_int (pac_cons pec_int (pac_cons pec_int (pac_cons pec_int (pac_cons pec_int (pac_cons pec_int pac_nil)))))))) (pac_cons (pec_tup (pac_cons pec_int (pac_cons pec_int (pac_cons pec_int (pac_cons pec_int (pac_cons pec_int (pac_cons pec_int (pac_cons pec_int pac_nil)))))))) (pac_cons (pec_tup (pac_cons pec_int (pac_cons pec_int (pac_cons pec_int (pac_cons pec_int (pac_cons pec_int (pac_cons pec_int (pac_cons pec_int pac_nil)))))))) (pac_cons (pec_tup (pac_cons pec_int (pac_cons pec_int (pac_cons pec_int (pac_cons pec_int (pac_cons pec_int (pac_cons pec_int (pac_cons pec_int pac_nil)))))))) (pac_cons (pec_tup (pac_cons pec_int (pac_cons pec_int (pac_cons pec_int (pac_cons pec_int (pac_cons pec_int (pac_cons pec_int (pac_cons pec_int pac_nil)))))))) (pac_cons (pec_tup (pac_cons pec_int (pac_cons pec_int (pac_cons pec_int (pac_cons pec_int (pac_cons pec_int (pac_cons pec_int (pac_cons pec_int pac_nil)))))))) (pac_cons (pec_tup (pac_cons pec_int (pac_cons pec_int (pac_cons pec_int (pac_cons pec_int (pac_cons pec_int (pac_cons pec_int (pac_cons pec_int pac_nil)))))))) (pac_cons (pec_tup (pac_cons pec_int (pac_cons pec_int (pac_cons pec_int (pac_cons pec_int (pac_cons pec_int (pac_cons pec_int (pac_cons pec_int pac_nil)))))))) (pac_cons (pec_tup (pac_cons pec_int (pac_cons pec_int (pac_cons pec_int (pac_cons pec_int (pac_cons pec_int (pac_cons pec_int (pac_cons pec_int pac_nil)))))))) (pac_cons (pec_tup (pac_cons pec_int (pac_cons pec_int (pac_cons pec_int (pac_cons pec_int (pac_cons pec_int (pac_cons pec_int (pac_cons pec_int pac_nil)))))))) pac_nil))))))))))))))))))))))), ?_⟩
    exact ⟨rfl, rfl, rfl, rfl, rfl, rfl, rfl, rfl, rfl, rfl, rfl, rfl, rfl, rfl, rfl, rfl, rfl, rfl, rfl, rfl, rfl, hq⟩
/-! _law_written_pairs: slots  -/
def sp__law_written_pairs : Spd := fun ds Q => ds = [] ∧ Q (.lst wpairD)
theorem sc__law_written_pairs : FnScope [] [] (defScope (top 95)) := ⟨rfl, rfl, rfl, by decide +kernel, rfl, by decide +kernel, by decide +kernel⟩
theorem ok__law_written_pairs (A : Kt K mg base) : FnAt P w K mg base 1 "_law_written_pairs" [] sp__law_written_pairs := by
  obtain ⟨fd, F⟩ := A.fn 72 (d := dd "_law_written_pairs" 95)
  refine fn_mk (A.glo 72) F sc__law_written_pairs (by decide) (fun _ _ _ _ _ _ us hl => match us, hl with | [], _ => rfl) ?_ ?_
  · intro ds Q h
    obtain ⟨rfl, hq⟩ := h
    rfl
  · intro E cdv A' outer s H Ex ds Qd hr h
    obtain ⟨rfl, hq⟩ := h
    refine ⟨_, (pssc_one (psc_ret (pec_lst (pac_cons (pec_tup (pac_cons pec_str (pac_cons pec_str pac_nil))) (pac_cons (pec_tup (pac_cons pec_str (pac_cons pec_str pac_nil))) (pac_cons (pec_tup (pac_cons pec_str (pac_cons pec_str pac_nil))) (pac_cons (pec_tup (pac_cons pec_str (pac_cons pec_str pac_nil))) (pac_cons (pec_tup (pac_cons pec_str (pac_cons pec_str pac_nil))) (pac_cons (pec_tup (pac_cons pec_str (pac_cons pec_str pac_nil))) (pac_cons (pec_tup (pac_cons pec_str (pac_cons pec_str pac_nil))) (pac_cons (pec_tup (pac_cons pec_str (pac_cons pec_str pac_nil))) pac_nil))))))))))), ?_⟩
    exact ⟨rfl, rfl, rfl, rfl, rfl, rfl, rfl, rfl, rfl, hq⟩
/-! _law_great_home: slots 0 deal, 1 row, 2 u, 3 p, 4 a, 5 b, 6 x, 7 y, 8 part, 9 order, 10 cubic, 11 spot -/
theorem row_home (V : Cv) (X : G V.C) {u : Zp V.p} (hu : u ≠ 0) : ∃ (V' : Cv) (X' : G V'.C), encC V' = .tup [.int V.p, .int (V.C.a * u * u * u * u).v, .int (V.C.b * u * u * u * u * u * u).v] ∧ encP X'.1 = encP (stp u X.1) ∧ ∀ k, nm k X = 0 ↔ nm k X' = 0 := by
  refine ⟨⟨V.p, V.hp, V.hb, V.five, stc V.C u hu⟩, stg hu X, rfl, rfl, fun k => ⟨fun h => ?_, fun h => ?_⟩⟩
  · have e := stg_nm hu k X
    rw [h] at e
    exact e.symm
  · have e := stg_nm hu k X
    exact (stg_zero hu).mp (e.trans h)
def sp__law_great_home : Spd := fun ds Q => ∃ R : Row, ds = [.deal, encRow R] ∧ ∀ (h : Hm) (L : G h.V.C), Q (.lst [encH h, encP L.1])
theorem sc__law_great_home : FnScope ["deal", "row", "u", "p", "a", "b", "x", "y", "part", "order", "cubic", "spot"] ["deal", "row"] (defScope (top 98)) := ⟨rfl, rfl, rfl, by decide +kernel, rfl, by decide +kernel, by decide +kernel⟩
theorem ok__law_great_home (A : Kt K mg base) : FnAt P w K mg base 4 "_law_great_home" ["deal", "row"] sp__law_great_home := by
  obtain ⟨fd, F⟩ := A.fn 75 (d := dd "_law_great_home" 98)
  refine fn_mk (A.glo 75) F sc__law_great_home (by decide) (fun _ _ _ _ _ _ us hl => match us, hl with | [_, _], _ => rfl) ?_ ?_
  · intro ds Q h
    obtain ⟨R, rfl, hq⟩ := h
    rfl
  · intro E cdv A' outer s H Ex ds Qd hr h
    obtain ⟨R, rfl, hq⟩ := h
    refine ⟨_, (pssc_cons (psc_asg (pec_var (i := 1)) (pgc_tup rfl (pgsc_cons (pgc_name (i := 3) sc__law_great_home.nd) (pgsc_cons (pgc_name (i := 4) sc__law_great_home.nd) (pgsc_cons (pgc_name (i := 5) sc__law_great_home.nd) (pgsc_cons (pgc_name (i := 6) sc__law_great_home.nd) (pgsc_cons (pgc_name (i := 7) sc__law_great_home.nd) (pgsc_cons (pgc_name (i := 8) sc__law_great_home.nd) (pgsc_cons (pgc_name (i := 9) sc__law_great_home.nd) pgsc_nil)))))))))
      (pssc_cons (psc_set (i := 2) sc__law_great_home.nd (pec_addI pec_int (pec_call (ok__law_any A) (hr.mono (by decide)) (pac_cons (pec_var (i := 0)) (pac_cons (pec_sub (pec_var (i := 3)) pec_int) pac_nil)))))
      (pssc_cons (psc_par (i := 10) (j := 11) rfl sc__law_great_home.nd (pac_cons (pec_call (ok__law_stretched A) (hr.mono (by decide)) (pac_cons (pec_tup (pac_cons (pec_var (i := 3)) (pac_cons (pec_var (i := 4)) (pac_cons (pec_var (i := 5)) pac_nil)))) (pac_cons (pec_var (i := 2)) pac_nil))) (pac_cons (pec_call (ok__law_moved A) (hr.mono (by decide)) (pac_cons (pec_tup (pac_cons (pec_var (i := 3)) (pac_cons (pec_var (i := 4)) (pac_cons (pec_var (i := 5)) pac_nil)))) (pac_cons (pec_var (i := 2)) (pac_cons (pec_tup (pac_cons (pec_var (i := 6)) (pac_cons (pec_var (i := 7)) pac_nil))) pac_nil)))) pac_nil)))
      (pssc_one (psc_ret (pec_lst (pac_cons (pec_tup (pac_cons (pec_var (i := 10)) (pac_cons (pec_call (ok__law_times A) (hr.mono (by decide)) (pac_cons (pec_var (i := 10)) (pac_cons (pec_var (i := 11)) (pac_cons (pec_mul (pec_var (i := 8)) (pec_addI pec_int (pec_call (ok__law_any A) (hr.mono (by decide)) (pac_cons (pec_var (i := 0)) (pac_cons (pec_sub (pec_var (i := 9)) pec_int) pac_nil))))) pac_nil)))) (pac_cons (pec_var (i := 9)) pac_nil)))) (pac_cons (pec_var (i := 11)) pac_nil)))))))), ?_⟩
    have p5 := R.V.five
    have p61 := R.V.hb.h
    have n2 := R.hn.pr.1
    have n61 := R.hb.h
    have hpart := R.hp
    refine ⟨rfl, R.V.p - 1, ?_, ⟨by omega, by omega⟩, fun r hr => ?_⟩
    · show [_, D.int (((R.V.p : Nat) : Int) - 1)] = _
      rw [show ((R.V.p : Nat) : Int) - 1 = ((R.V.p - 1 : Nat) : Int) by omega]
    obtain ⟨u, eu, hu⟩ : ∃ u : Zp R.V.p, (1 : Int) + ((r : Nat) : Int) = u.v ∧ u ≠ 0 := ⟨⟨(1 : Int) + ((r : Nat) : Int), by omega, by omega⟩, rfl, fun h => by
      have := congrArg Ec.Zp.v h
      rw [zp_zero_v] at this
      have this : (1 : Int) + ((r : Nat) : Int) = 0 := this
      omega⟩
    dsimp only [II0]
    rw [eu]
    refine ⟨rfl, R.V.p, R.V.hp, R.V.hb, R.V.C.a, R.V.C.b, u, rfl, rfl, rfl, R.V.p, R.V.hp, R.V.hb, R.V.C.a, R.V.C.b, u, R.x, R.y, rfl, ?_⟩
    refine ⟨R.n - 1, ?_, ⟨by omega, by omega⟩, fun k hk => ?_⟩
    · show [_, D.int (((R.n : Nat) : Int) - 1)] = _
      rw [show ((R.n : Nat) : Int) - 1 = ((R.n - 1 : Nat) : Int) by omega]
    haveI : Sz 61 ((R.part : Nat) : Int) := ⟨by omega⟩
    haveI : Sz 62 ((1 : Int) + ((k : Nat) : Int)) := ⟨by omega⟩
    have hlt : R.part * (1 + k) < 2 ^ 200 := by
      have := Nat.mul_le_mul (Nat.le_of_lt hpart) (show 1 + k ≤ 2 ^ 61 by omega)
      exact Nat.lt_of_le_of_lt this (by decide)
    obtain ⟨V', X', e1, e2, hiff⟩ := row_home R.V ⟨some (R.x, R.y), R.on⟩ hu
    have ez : nm R.n (nm R.part X') = 0 := by
      rw [← nm_mul]
      exact (hiff _).mp ((nm_mul _ _ _).trans R.zero)
    have en : nm R.part X' ≠ 0 := fun q => R.ne ((hiff _).mpr q)
    have em : nm (R.part * (1 + k)) X' = nm (1 + k) (nm R.part X') := by rw [Nat.mul_comm, nm_mul]
    have hz : nm R.n (nm (R.part * (1 + k)) X') = 0 := by rw [em, nm_comm, ez, nm_z]
    have hne : nm (R.part * (1 + k)) X' ≠ 0 := fun q => by
      rw [em] at q
      have := Nat.le_of_dvd (by omega) (nm_prime R.hn.pr ez en q)
      omega
    refine ⟨cmW, V', X', R.part * (1 + k), ?_, hlt, rfl, rfl, ?_⟩
    · show [D.tup [.int R.V.p, .int (R.V.C.a * u * u * u * u).v, .int (R.V.C.b * u * u * u * u * u * u).v], encP (stp u (some (R.x, R.y))), D.int (((R.part : Nat) : Int) * (1 + ((k : Nat) : Int)))] = _
      rw [show ((R.part : Nat) : Int) * (1 + ((k : Nat) : Int)) = ((R.part * (1 + k) : Nat) : Int) by rw [Int.natCast_mul]; rfl, e1, e2]
    · have := hq ⟨V', R.n, R.hn, R.hb, nm (R.part * (1 + k)) X', hz, hne⟩ X'
      unfold encH at this
      rw [e1, e2] at this
      exact this
/-! _law_home: slots 0 deal, 1 kind -/
def sp__law_home : Spd := fun ds Q => ds = [.deal] ∧ ∀ (h : Hm) (L : G h.V.C), Q (.lst [encH h, encP L.1])
theorem sc__law_home : FnScope ["deal", "kind"] ["deal"] (defScope (top 99)) := ⟨rfl, rfl, rfl, by decide +kernel, rfl, by decide +kernel, by decide +kernel⟩
theorem ok__law_home (A : Kt K mg base) : FnAt P w K mg base 6 "_law_home" ["deal"] sp__law_home := by
  obtain ⟨fd, F⟩ := A.fn 76 (d := dd "_law_home" 99)
  refine fn_mk (A.glo 76) F sc__law_home (by decide) (fun _ _ _ _ _ _ us hl => match us, hl with | [_], _ => rfl) ?_ ?_
  · intro ds Q h
    obtain ⟨rfl, hq⟩ := h
    rfl
  · intro E cdv A' outer s H Ex ds Qd hr h
    obtain ⟨rfl, hq⟩ := h
    refine ⟨_, (pssc_cons (psc_set (i := 1) sc__law_home.nd (pec_call (ok__law_any A) (hr.mono (by decide)) (pac_cons (pec_var (i := 0)) (pac_cons pec_int pac_nil))))
      (pssc_cons (psc_if (pte_lt (pec_var (i := 1)) pec_int) (pssc_one (psc_ret (pec_call (ok__law_small_home A) (hr.mono (by decide)) (pac_cons (pec_var (i := 0)) (pac_cons (pec_lst (pac_cons pec_int (pac_cons pec_int (pac_cons pec_int (pac_cons pec_int (pac_cons pec_int (pac_cons pec_int (pac_cons pec_int (pac_cons pec_int (pac_cons pec_int (pac_cons pec_int (pac_cons pec_int (pac_cons pec_int (pac_cons pec_int (pac_cons pec_int (pac_cons pec_int (pac_cons pec_int (pac_cons pec_int pac_nil)))))))))))))))))) pac_nil))))) pssc_nil)
      (pssc_cons (psc_if (pte_eq hr.units (pec_var (i := 1)) pec_int) (pssc_one (psc_ret (pec_call (ok__law_middling_home A) (hr.mono (by decide)) (pac_cons (pec_var (i := 0)) pac_nil)))) pssc_nil)
      (pssc_one (psc_ret (pec_call (ok__law_great_home A) (hr.mono (by decide)) (pac_cons (pec_var (i := 0)) (pac_cons (pec_call (ok__law_of A) (hr.mono (by decide)) (pac_cons (pec_var (i := 0)) (pac_cons (pec_call0 (ok__law_written A) (hr.mono (by decide))) pac_nil))) pac_nil)))))))), ?_⟩
    refine ⟨6, rfl, ⟨by decide, by decide⟩, fun kind hk => ⟨fun _ => ⟨rfl, _, rfl, small_199, fun h L _ => hq h L⟩, fun _ => ⟨fun _ => ⟨rfl, hq⟩, fun _ => ?_⟩⟩⟩
    refine ⟨rfl, writD, rfl, ⟨by decide, by decide⟩, fun d hd => ?_⟩
    obtain ⟨R, rfl⟩ := writ_ok d hd
    exact ⟨R, rfl, hq⟩
end
end K75
set_option Elab.async false
set_option linter.all false
set_option maxRecDepth 100000
set_option maxHeartbeats 1000000
namespace K75
open PySem PySem.Spec PyProof.Rows L2 Cc Ec
section
variable {P : Program} {w : World} {K : PySem.W.Frag} {mg : Str → Option Value} {base : Heap}
/-- the promise of the source's maker: raw, the script is no data -/
def spDeal (K : PySem.W.Frag) : Sp := fun vs H Q _ => ∃ (s : Addr) (ns : List Int) (G : Gh), vs = [.ref s, .int 75] ∧ Scr K G H s (ns.map V.int) ∧ ns.length ≤ 63 ∧ Cons G H ∧ ∀ v G' H', Step G H G' H' → Cons G' H' → Rp G' v .deal → Q v H'
theorem sc__law_deal : FnScope ["script", "salt", "cells", "mix", "cell"] ["script", "salt"] (defScope (top 74)) := ⟨rfl, rfl, rfl, by decide +kernel, rfl, by decide +kernel, by decide +kernel⟩
theorem ok__law_deal (A : Kt K mg base) : ∃ f fd, mg "_law_deal" = some (.ref f) ∧ PySem.W.keepIn K (.ref f) = true ∧ Binds K fd ["script", "salt"] [] ∧ FnOk P w K mg base CX0 1 f fd ["script", "salt"] (spDeal K) := by
  obtain ⟨fd, F⟩ := A.fn 51 (d := dd "_law_deal" 74)
  refine ⟨_, fd, A.glo 51, F.kp, F.bindsN (fun _ _ _ _ _ _ us hl => match us, hl with | [_, _], _ => rfl), F.ok sc__law_deal (fun vs H Q E h => by obtain ⟨s, ns, G, rfl, _⟩ := h; rfl) fun cdv A' outer st H vs Q Ex hr h => ?_⟩
  obtain ⟨s, ns, G, rfl, hS, hl, c, o⟩ := h
  refine ⟨_, PSs.nox (pssc_cons (E := ⟨G, H⟩) (psc_setLcL (i := 2) (iv := 4) rfl sc__law_deal.nd (pec_cutScr (s := s) (ns := ns) hS (pec_var (i := 0)) pec_int) (blkOk_by (own := [("cell", 4)]) rfl) (fun _ _ _ _ _ => pg_name sc__law_deal.nd rfl (by first | exact .inl rfl | exact .inr rfl)) (fun _ _ _ _ _ => ptsc_nil) (fun _ _ _ _ _ => (pec_absc (A.free 96) (pac_cons (pec_intc (A.free 99) (pac_cons (pec_var (i := 4)) pac_nil)) pac_nil))))
    (pssc_cons (psc_set (i := 3) sc__law_deal.nd (pec_addI pec_int (pec_mulC pec_int (pec_var (i := 1)))))
    (pssc_cons (psc_forL .never rfl (pec_var (i := 2)) (pgc_name (i := 4) sc__law_deal.nd) (pssc_one (psc_set (i := 3) sc__law_deal.nd (pec_mod (pec_intc (A.free 99) (pac_cons (pec_addI (pec_addI (pec_mulC (pec_var (i := 3)) pec_int) (pec_mod (pec_var (i := 4)) pec_int)) pec_int) pac_nil)) pec_int))))
    (pssc_one (psc_ret (pec_deal (pec_lcL (iv := 4) rfl sc__law_deal.nd (pec_var (i := 2)) (blkOk_by (own := [("cell", 4)]) rfl) (fun _ _ _ _ _ => pg_name sc__law_deal.nd rfl (by first | exact .inl rfl | exact .inr rfl)) (fun _ _ _ _ _ => ptsc_one (pte_ge (pec_var (i := 4)) (pec_pow pec_int pec_int))) (fun _ _ _ _ _ => (pec_var (i := 4)))) (pec_var (i := 3)) pec_int)))))), G, startD 5 [.scr s, .int 75], ⟨fun _ => False, fun d => d = .deal, fun _ => False, fun _ => False⟩, rel_start (N := ["script", "salt", "cells", "mix", "cell"]) (ds := [.scr s, .int 75]) (vs := [.ref s, .int 75]) c (.cons (show Rp G (.ref s) (.scr s) from rfl) (.cons (show Rp G (.int 75) (.int 75) from rfl) .nil)) (show 2 ≤ 5 by decide), ?_, ⟨fun _ h => h.elim, fun d h v G' H' S' c' r' => by subst h; exact o v G' H' S' c' r', fun _ h => h.elim, fun _ h => h.elim⟩⟩
  refine ⟨rfl, 63, rfl, by omega, by rw [List.length_map]; omega, fun i acc => ∃ ms : List Int, acc = ms.map D.int ∧ (∀ m ∈ ms, 0 ≤ m) ∧ ms.length ≤ i, ⟨[], rfl, (fun _ h => nomatch h), Nat.le_refl _⟩, ?_, ?_⟩
  · rintro i x acc hi hx ⟨ms, rfl, m0, ml⟩
    rw [List.getElem?_map] at hx
    obtain ⟨n, hn, rfl⟩ := Option.map_eq_some_iff.mp hx
    refine ⟨fun _ => ?_, (fun h => nomatch h)⟩
    refine ⟨ms ++ [if n < 0 then -n else n], by rw [List.map_append]; rfl, fun m hm => ?_, by simp; omega⟩
    rcases List.mem_append.mp hm with q | q
    · exact m0 m q
    · rw [List.mem_singleton.mp q]
      split <;> omega
  rintro acc ⟨ms, rfl, m0, ml⟩
  rw [List.length_map] at ml
  refine ⟨.inr (by decide), ?_⟩
  refine ⟨fun i ρ => ∃ m s4, ρ = [.d (.scr s), .d (.int 75), .d (.lst (ms.map D.int)), .d (.int m), s4] ∧ 0 ≤ m ∧ m < 2147483647, ⟨_, _, rfl, by decide, by decide⟩, ?_, ?_⟩
  · rintro i x ρ hx ⟨m, s4, rfl, h0, h1⟩
    rw [List.getElem?_map] at hx
    obtain ⟨n, hn, rfl⟩ := Option.map_eq_some_iff.mp hx
    exact ⟨.inr (by decide), (show (0 : Int) < 2147483563 by decide), (show (0 : Int) < 2147483647 by decide), _, _, rfl, Int.emod_nonneg _ (by decide), Int.emod_lt_of_pos _ (by decide)⟩
  rintro ρ ⟨m, s4, rfl, h0, h1⟩
  refine ⟨by rw [List.length_map]; omega, fun i acc => ∃ ks : List Int, acc = ks.map D.int ∧ (∀ m ∈ ks, 0 ≤ m) ∧ ks.length ≤ i, ⟨[], rfl, (fun _ h => nomatch h), Nat.le_refl _⟩, ?_, ?_⟩
  · rintro i x acc hi hx ⟨ks, rfl, k0, kl⟩
    rw [List.getElem?_map] at hx
    obtain ⟨n, hn, rfl⟩ := Option.map_eq_some_iff.mp hx
    refine ⟨⟨by decide, by decide, by decide⟩, fun _ => ?_, fun _ => ⟨ks, rfl, k0, by omega⟩⟩
    refine ⟨ks ++ [n], by rw [List.map_append]; rfl, fun m hm => ?_, by simp; omega⟩
    rcases List.mem_append.mp hm with q | q
    · exact k0 m q
    · rw [List.mem_singleton.mp q]
      exact m0 n (List.mem_of_getElem? hn)
  rintro acc ⟨ks, rfl, k0, kl⟩
  rw [List.length_map] at kl
  exact ⟨ks, rfl, k0, by omega, m, rfl, h0, h1, 0, rfl, by decide, rfl⟩
/-- the call of it -/
def dMake (s : Addr) (t : TAd) : TEd := fun ρ Q => t ρ fun ds => ds = [.scr s, .int 75] ∧ Q .deal
theorem pec_make {X : Cx} {E : Ent} {e : Expr} {es : List Expr} {t : TAd} {pos p : Pos} {s : Addr} {ns : List Int} (F : ∃ f fd, X.mg "_law_deal" = some (.ref f) ∧ PySem.W.keepIn X.K (.ref f) = true ∧ Binds X.K fd ["script", "salt"] [] ∧ FnOk X.prog X.w X.K X.mg X.base CX0 1 f fd ["script", "salt"] (spDeal X.K))
    (hs : Scr X.K E.G E.H s (ns.map V.int)) (hl : ns.length ≤ 63) (hr : Room 1 X.A) (ha : PAc X E (e :: es) t) (hgl : Gl X "_law_deal" := by rfl)
    (he : starEach (e :: es) X.env = (false, eval e X.env) :: starEach es X.env := by rfl) (hpl : (backTo pos (starEach es X.env)).any (·.1) = false := by rfl) : PEc X E (.Call (.Name "_law_deal" p) (e :: es) [] pos) (dMake s t) := by
  obtain ⟨f, fd, hm, hk, hb, F'⟩ := F
  refine PE.imp (pe_call (E := fun _ _ _ => False) F' hr hgl hm hk hb .nil (fun _ _ _ _ _ _ _ h => h.elim) ha (by decide) he hpl) fun σ H Q q => ?_
  obtain ⟨G, ρ, Qd, R, h, o⟩ := q
  refine ⟨G, ρ, _, R, h, fun ds hds vs G1 H1 S1 c1 r1 => ?_⟩
  obtain ⟨rfl, hd⟩ := hds
  have ev : vs = [.ref s, .int 75] := by
    cases r1 with
    | cons a r =>
      cases r with
      | cons b r =>
        cases r
        cases (show _ = V.ref s from a)
        cases (show _ = V.int 75 from b)
        rfl
  subst ev
  have S := R.step.trans S1
  exact ⟨s, ns, G1, rfl, hs.stay S, hl, c1, fun v G' H' S' c' r' => o _ hd v G' H' (S1.trans S') c' r'⟩
theorem wpair_ok : ∀ d ∈ wpairD, ∃ a b : Str, d = .tup [.str a, .str b] ∧ a.length ≤ 100 ∧ b.length ≤ 100 := by
  intro d hd
  obtain ⟨p, hp, rfl⟩ := List.mem_map.mp hd
  have : ∀ p ∈ wpair, p.1.length ≤ 100 ∧ p.2.length ≤ 100 := by decide +kernel
  exact ⟨p.1, p.2, rfl, this p hp⟩
theorem writD_at {k : Nat} (h : k < 20) : ∃ R : Row, atI writD ((k : Nat) : Int) = some (encRow R) := by
  have hl : k < writD.length := h
  obtain ⟨R, e⟩ := writ_ok (writD[k]) (List.getElem_mem hl)
  exact ⟨R, atI_nat (by rw [List.getElem?_eq_getElem hl, e])⟩
theorem wpairD_at {k : Nat} (h : k < 8) : ∃ a b : Str, atI wpairD ((k : Nat) : Int) = some (.tup [.str a, .str b]) ∧ a.length ≤ 100 ∧ b.length ≤ 100 := by
  have hl : k < wpairD.length := h
  obtain ⟨a, b, e, la, lb⟩ := wpair_ok (wpairD[k]) (List.getElem_mem hl)
  exact ⟨a, b, atI_nat (by rw [List.getElem?_eq_getElem hl, e]), la, lb⟩
def spLaw (K : PySem.W.Frag) : Sp := fun vs H Q _ => ∃ (s : Addr) (ns : List Int), vs = [.ref s] ∧ SqL K H s (ns.map V.int) ∧ ns.length ≤ 63 ∧ ∀ H', Q (.bl true) H'
theorem sc_law : FnScope ["script", "deal", "at", "pair", "turn", "home", "lead"] ["script"] (defScope (top 117)) := ⟨rfl, rfl, rfl, by decide +kernel, rfl, by decide +kernel, by decide +kernel⟩
theorem ok_law (A : Kt K mg base) {fd : FuncData} (F : FunD K (dd "law" 117).name (dd "law" 117).qual (dd "law" 117).params (dd "law" 117).body (dd "law" 117).scope ((dd "law" 117).dvs K) ((dd "law" 117).kws K) (He.fAd K (dd "law" 117).at_) fd) : FnOk P w K mg base CX0 10 (He.fAd K (dd "law" 117).at_) fd ["script"] (spLaw K) := by
  refine F.ok sc_law (fun vs H Q E h => by obtain ⟨s, ns, rfl, _⟩ := h; rfl) fun cdv A' outer st H vs Q Ex hr h => ?_
  obtain ⟨s, ns, rfl, hS, hl, o⟩ := h
  have hS : Scr K (fun _ => none) H s (ns.map V.int) := Scr.of hS rfl
  refine ⟨_, PSs.nox (pssc_cons (E := ⟨fun _ => none, H⟩) (psc_set (i := 1) sc_law.nd (pec_make (s := s) (ns := ns) (ok__law_deal A) hS hl (hr.mono (by decide)) (pac_cons (pec_var (i := 0)) (pac_cons pec_int pac_nil))))
      (pssc_cons (psc_set (i := 2) sc_law.nd (pec_call (ok__law_any A) (hr.mono (by decide)) (pac_cons (pec_var (i := 1)) (pac_cons pec_int pac_nil))))
      (pssc_cons (psc_asg (pec_ifExp (pte_gt (pec_var (i := 2)) pec_int) (pec_call (ok__law_home A) (hr.mono (by decide)) (pac_cons (pec_var (i := 1)) pac_nil)) (pec_call (ok__law_great_home A) (hr.mono (by decide)) (pac_cons (pec_var (i := 1)) (pac_cons (pec_ix (pec_call0 (ok__law_written A) (hr.mono (by decide))) (pec_var (i := 2)) (fun _ _ => rfl)) pac_nil)))) (pgc_lst rfl (pgsc_cons (pgc_name (i := 5) sc_law.nd) (pgsc_cons (pgc_name (i := 6) sc_law.nd) pgsc_nil))))
      (pssc_cons (psc_set (i := 3) sc_law.nd (pec_ifExp (pte_gt (pec_var (i := 2)) pec_int) (pec_tup (pac_cons pec_str (pac_cons pec_str pac_nil))) (pec_ix (pec_call0 (ok__law_written_pairs A) (hr.mono (by decide))) (pec_var (i := 2)) (fun _ _ => rfl))))
      (pssc_cons (psc_if (PWc.pt (pwc_or (ptc_not (ptc_val (pec_call (ok__law_told_right A) (hr.mono (by decide)) (pac_cons (pec_var (i := 1)) (pac_cons (pec_var (i := 5)) (pac_cons (pec_var (i := 3)) pac_nil)))))) (pwc_or1 (ptc_not (ptc_val (pec_call (ok__law_talks_right A) (hr.mono (by decide)) (pac_cons (pec_var (i := 1)) (pac_cons (pec_var (i := 5)) (pac_cons (pec_var (i := 6)) (pac_cons pec_int pac_nil)))))))))) (pssc_one (psc_ret pec_bl)) pssc_nil)
      (pssc_cons (psc_asg (pec_call (ok__law_small_home A) (hr.mono (by decide)) (pac_cons (pec_var (i := 1)) (pac_cons (pec_lst (pac_cons pec_int (pac_cons pec_int (pac_cons pec_int (pac_cons pec_int (pac_cons pec_int (pac_cons pec_int (pac_cons pec_int (pac_cons pec_int (pac_cons pec_int (pac_cons pec_int (pac_cons pec_int (pac_cons pec_int (pac_cons pec_int (pac_cons pec_int pac_nil))))))))))))))) pac_nil))) (pgc_lst rfl (pgsc_cons (pgc_name (i := 5) sc_law.nd) (pgsc_cons (pgc_name (i := 6) sc_law.nd) pgsc_nil))))
      (pssc_cons (psc_forR1 .never rfl (A.free 103) (pac_cons pec_int pac_nil) (pgc_name (i := 4) sc_law.nd) (pssc_one (psc_if (ptc_not (ptc_val (pec_call (ok__law_told_right A) (hr.mono (by decide)) (pac_cons (pec_var (i := 1)) (pac_cons (pec_var (i := 5)) (pac_cons (pec_call (ok__law_meeting A) (hr.mono (by decide)) (pac_cons (pec_var (i := 1)) (pac_cons (pec_item (k := 2) (pec_var (i := 5))) pac_nil))) pac_nil)))))) (pssc_one (psc_ret pec_bl)) pssc_nil)))
      (pssc_cons (psc_if (ptc_not (ptc_val (pec_call (ok__law_talks_right A) (hr.mono (by decide)) (pac_cons (pec_var (i := 1)) (pac_cons (pec_var (i := 5)) (pac_cons (pec_var (i := 6)) (pac_cons pec_int pac_nil))))))) (pssc_one (psc_ret pec_bl)) pssc_nil)
      (pssc_one (psc_ret (pec_or (pec_eq hr.units (pec_call (ok__law_any A) (hr.mono (by decide)) (pac_cons (pec_var (i := 1)) (pac_cons pec_int pac_nil))) pec_int) (pec_one (pec_call (ok__law_all_talks A) (hr.mono (by decide)) (pac_cons (pec_var (i := 1)) pac_nil)))))))))))))), (fun _ => none), startD 7 [.scr s], ⟨fun _ => False, fun d => d = .bl true, fun _ => False, fun _ => False⟩, rel_start (G := fun _ => none) (N := ["script", "deal", "at", "pair", "turn", "home", "lead"]) (ds := [.scr s]) (vs := [.ref s]) (fun _ _ h => nomatch h) (.cons (show Rp (fun _ => none) (.ref s) (.scr s) from rfl) .nil) (show 1 ≤ 7 by decide), ?_, ⟨fun _ h => h.elim, fun d h v G' H' S' c' r' => by subst h; cases (show v = .bl true from r'); exact o H', fun _ h => h.elim, fun _ h => h.elim⟩⟩
  refine ⟨rfl, ?_⟩
  refine ⟨14, rfl, ⟨by decide, by decide⟩, fun k hk => ?_⟩
  dsimp only
  refine dseq_mid (ts := dAsg _ _) (us := dSeq _ _) (fun ρ => ∃ (h : Hm) (L : G h.V.C) (s3 s4 : Cc.Sl), ρ = [.d (.scr s), .d .deal, .d (.int k), s3, s4, .d (encH h), .d (encP L.1)]) ?_ ?_
  · intro nx hnx
    refine ⟨fun h7 => ⟨rfl, fun h L => ⟨rfl, hnx _ ⟨h, L, .no, .no, rfl⟩⟩⟩, fun h7 => ?_⟩
    have h7 : ¬ (7 : Int) < (k : Nat) := of_decide_eq_false h7
    obtain ⟨R, eR⟩ := writD_at (k := k) (by omega)
    exact ⟨rfl, _, eR, R, rfl, fun h L => ⟨rfl, hnx _ ⟨h, L, .no, .no, rfl⟩⟩⟩
  rintro ρ ⟨h, L, s3, s4, rfl⟩
  refine dseq_mid (ts := dSet _ _) (us := dSeq _ _) (fun ρ => ∃ (a b : Str) (s4 : Cc.Sl), ρ = [.d (.scr s), .d .deal, .d (.int k), .d (.tup [.str a, .str b]), s4, .d (encH h), .d (encP L.1)] ∧ a.length ≤ 100 ∧ b.length ≤ 100) ?_ ?_
  · intro nx hnx
    refine ⟨fun h7 => ⟨rfl, hnx _ ⟨_, _, _, rfl, by decide +kernel, by decide +kernel⟩⟩, fun h7 => ?_⟩
    have h7 : ¬ (7 : Int) < (k : Nat) := of_decide_eq_false h7
    obtain ⟨a, b, e, la, lb⟩ := wpairD_at (k := k) (by omega)
    exact ⟨rfl, _, e, hnx _ ⟨_, _, _, rfl, la, lb⟩⟩
  rintro ρ ⟨a, b, s4, rfl, la, lb⟩
  refine ⟨h, a, b, rfl, ⟨la, lb⟩, (fun h => nomatch h), fun _ => ⟨h, L, 3, rfl, by decide, (fun h => nomatch h), fun _ => ?_⟩⟩
  refine ⟨rfl, _, rfl, small_61, fun h L hn => ⟨rfl, ?_⟩⟩
  have h2 := h.hn.pr.1
  have hb := h.hb.h
  refine ⟨⟨by decide, by decide⟩, fun i ρ => ∃ s3 s4, ρ = [.d (.scr s), .d .deal, .d (.int k), s3, s4, .d (encH h), .d (encP L.1)], ⟨_, _, rfl⟩, ?_, ?_⟩
  · rintro i ρ hi ⟨s3, s4, rfl⟩
    exact ⟨h.n, rfl, ⟨by omega, by omega⟩, fun a b la lb => ⟨h, a, b, rfl, ⟨la, lb⟩, (fun h => nomatch h), fun _ => ⟨_, _, rfl⟩⟩⟩
  rintro ρ ⟨s3, s4, rfl⟩
  refine ⟨h, L, 6, rfl, by decide, (fun h => nomatch h), fun _ => ?_⟩
  refine ⟨2, rfl, ⟨by decide, by decide⟩, fun r hr => ?_⟩
  refine ⟨fun _ => rfl, fun _ => ⟨rfl, rfl⟩⟩
end
end K75
set_option Elab.async false
set_option linter.all false
set_option maxRecDepth 100000
set_option maxHeartbeats 0
namespace K75
open PySem PySem.Spec PyProof.Rows L2 Cc Ec
theorem facts {P : Program} {w : World} {K : PySem.W.Frag} {h : Heap} {mg : Str → Option Value} {f : Addr} (X : K.In h) (G : h.Ns mainGlobals mg) (hfa : mg ("law" : Str) = some (.ref f)) (c : SaysK K) :
    ∃ fd : FuncData, (∀ (s : Shared) (v : Value), BindsTo s fd ⟨[v], []⟩ [("script", v)]) ∧ ∀ base : Heap, K.In base → base.Ns mainGlobals mg → FnOk P w K mg base CX0 10 f fd ["script"] (spLaw K) := by
  have A : Kt K mg h := ⟨c, X, G⟩
  obtain ⟨fd, F⟩ := A.fn 94 (d := dd "law" 117)
  have e := hfa.symm.trans (A.glo 94)
  cases e
  have b := FunD.bindsA (ps := ["script"]) F fun _ _ _ _ _ _ us hl => match us, hl with | [_], _ => rfl
  exact ⟨fd, fun s v => b s [v] rfl, fun base kb nb => ok_law ⟨c, kb, nb⟩ F⟩
end K75
open PySem PySem.W PySem.Calls PyProof.Rows
theorem PySem.Challenge.cw_allcurves_k75_whole_keys_told_and_talks_holds : PySem.Challenge.rw_allcurves_k75_whole_keys_told_and_talks.Holds := by
  w_on; o_law
  refine HeadRun.head_imp (r := OpenLaw.row PySem.Challenge.rw_allcurves_k75_whole_keys_told_and_talks) (q := view (OpenLaw.row PySem.Challenge.rw_allcurves_k75_whole_keys_told_and_talks).prog [0, 117]) (H := K75.hk) (ob := K75.ob) (M := 9000) (loose := K75.loose) (d := HandSHeadRun.topDef (OpenLaw.row PySem.Challenge.rw_allcurves_k75_whole_keys_told_and_talks).prog 117) (kwd := []) K75.ob_eq
    K75.run (by kernel_rfl) (by kernel_rfl) (by kernel_rfl) (by rfl) (by first | assumption | decide +kernel) (by decide +kernel) ⟨rfl, rfl, rfl, rfl, rfl, by decide +kernel⟩ ?hw ?hc
  case hw => w_witness2
  case hc =>
    refine L2.walk_ofE (l := PySem.Challenge.rw_allcurves_k75_whole_keys_told_and_talks) (n := 63) (k := 10) (x := "script") (CX := L2.CX0) rfl (by decide) (by kernel_rfl) ⟨rfl, by decide, by decide⟩ ?F (fun _ _ _ _ z => z)
    intro w mg fa h Y G hmg0
    obtain ⟨K, KX, c⟩ := Y
    have hmg : mg ("law" : PySem.Str) = some (.ref fa) := by
      have e : (HandSHeadRun.topDef (OpenLaw.row PySem.Challenge.rw_allcurves_k75_whole_keys_told_and_talks).prog 117).name = ("law" : PySem.Str) := by kernel_rfl
      rw [← e]
      exact hmg0
    obtain ⟨fd, hb, hF⟩ := K75.facts (P := (PySem.Challenge.rw_allcurves_k75_whole_keys_told_and_talks).prog) (w := w) KX G hmg c
    exact ⟨K, fd, K75.spLaw K, KX, hb, fun H a ns hl _ hS => ⟨a, ns, rfl, hS, hl, fun _ => rfl⟩, hF⟩
