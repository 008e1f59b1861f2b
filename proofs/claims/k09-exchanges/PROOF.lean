import PyProof.Rows.All
import Wide.All
import OpenK.AllK
import Wide.FinOn
import HandS.ForMost
import HandS.Walk
import HandS.Star
import HandS.TupSets
import HandS.DictTup
import HandS.IsInst
import HandS.RaiseMore
import HandS.SortKw
import HandS.Conv
import HandS.TupAny
import KE.KDictKeyed
import KE.KDictSum
import HandS.Style
import HandS.Codes
import PySem.Challenge.RW_boxparts_k09_whole_rules_and_form_of_exc
set_option Elab.async false
set_option linter.all false
/-! plain mathematics: sums of words, exchanges, the form -/
namespace K9
abbrev Wd := List Int
abbrev Sm := List (Wd × Int)

/-! ### congruence -/
def Eqp (p a b : Int) : Prop := a % p = b % p
theorem Eqp.refl (p a : Int) : Eqp p a a := rfl
theorem Eqp.of_eq {p a b : Int} (h : a = b) : Eqp p a b := by rw [h]; exact Eqp.refl p b
theorem Eqp.symm {p a b : Int} (h : Eqp p a b) : Eqp p b a := Eq.symm h
theorem Eqp.trans {p a b c : Int} (h : Eqp p a b) (g : Eqp p b c) : Eqp p a c := Eq.trans h g
theorem Eqp.add {p a b c d : Int} (h : Eqp p a b) (g : Eqp p c d) : Eqp p (a + c) (b + d) := by
  unfold Eqp at *
  rw [Int.add_emod, h, g, ← Int.add_emod]
theorem Eqp.mul {p a b c d : Int} (h : Eqp p a b) (g : Eqp p c d) : Eqp p (a * c) (b * d) := by
  unfold Eqp at *
  rw [Int.mul_emod, h, g, ← Int.mul_emod]
theorem Eqp.mod (p a : Int) : Eqp p (a % p) a := Int.emod_emod_of_dvd a (Int.dvd_refl p)

/-! ### integrals -/
def I (d : Sm) (h : Wd → Int) : Int := match d with
  | [] => 0
  | kv :: r => kv.2 * h kv.1 + I r h
theorem I_nil (h : Wd → Int) : I [] h = 0 := rfl
theorem I_cons (kv : Wd × Int) (r : Sm) (h : Wd → Int) : I (kv :: r) h = kv.2 * h kv.1 + I r h := rfl
theorem I_append (h : Wd → Int) : ∀ a b : Sm, I (a ++ b) h = I a h + I b h
  | [], b => by rw [List.nil_append, I_nil, Int.zero_add]
  | kv :: r, b => by rw [List.cons_append, I_cons, I_cons, I_append h r b, Int.add_assoc]
theorem I_congr {h g : Wd → Int} : ∀ {d : Sm}, (∀ kv ∈ d, h kv.1 = g kv.1) → I d h = I d g
  | [], _ => rfl
  | kv :: r, e => by
    rw [I_cons, I_cons, e kv List.mem_cons_self, I_congr fun x hx => e x (List.mem_cons_of_mem _ hx)]
theorem I_eqp {p : Int} {h g : Wd → Int} : ∀ {d : Sm}, (∀ kv ∈ d, Eqp p (h kv.1) (g kv.1)) → Eqp p (I d h) (I d g)
  | [], _ => rfl
  | kv :: r, e => by
    rw [I_cons, I_cons]
    exact ((Eqp.refl p kv.2).mul (e kv List.mem_cons_self)).add (I_eqp fun x hx => e x (List.mem_cons_of_mem _ hx))
theorem I_add (h g : Wd → Int) : ∀ d : Sm, I d (fun w => h w + g w) = I d h + I d g
  | [] => rfl
  | kv :: r => by rw [I_cons, I_cons, I_cons, I_add h g r, Int.mul_add]; omega
theorem I_mul (c : Int) (h : Wd → Int) : ∀ d : Sm, I d (fun w => c * h w) = c * I d h
  | [] => by rw [I_nil, I_nil, Int.mul_zero]
  | kv :: r => by rw [I_cons, I_cons, I_mul c h r, Int.mul_add, Int.mul_left_comm]
theorem I_zero : ∀ d : Sm, I d (fun _ => 0) = 0
  | [] => rfl
  | kv :: r => by rw [I_cons, I_zero r, Int.mul_zero, Int.zero_add]
theorem I_comm (F : Wd → Wd → Int) : ∀ a b : Sm, I a (fun w => I b (fun u => F u w)) = I b (fun u => I a (fun w => F u w))
  | [], b => by
    rw [I_nil, show (fun u => I [] (fun w => F u w)) = fun _ => 0 from rfl, I_zero]
  | kv :: r, b => by
    rw [I_cons, I_comm F r b, ← I_mul kv.2, ← I_add]
    rfl

/-! ### sums: look up, put, add -/
def look : Sm → Wd → Int
  | [], _ => 0
  | kv :: r, v => if kv.1 = v then kv.2 else look r v
def hasK (d : Sm) (w : Wd) : Bool := d.any fun kv => decide (kv.1 = w)
def put (d : Sm) (w : Wd) (c : Int) : Sm := if hasK d w = true then d.map (fun kv => if kv.1 = w then (kv.1, c) else kv) else d ++ [(w, c)]
def addTo (d : Sm) (w : Wd) (c : Int) : Sm := put d w (look d w + c)
def keys (d : Sm) : List Wd := d.map (·.1)
def dl (u w : Wd) : Int := if u = w then 1 else 0
theorem dl_comm (u w : Wd) : dl u w = dl w u := by
  unfold dl
  by_cases e : u = w
  · rw [if_pos e, if_pos e.symm]
  · rw [if_neg e, if_neg fun z => e z.symm]
theorem dl_mul (u w : Wd) (f : Wd → Int) : dl u w * f w = dl u w * f u := by
  unfold dl
  by_cases e : u = w
  · rw [e]
  · rw [if_neg e, Int.zero_mul, Int.zero_mul]
theorem hasK_iff {d : Sm} {w : Wd} : hasK d w = true ↔ w ∈ keys d := by
  unfold hasK keys
  rw [List.any_eq_true, List.mem_map]
  exact ⟨fun ⟨x, hx, e⟩ => ⟨x, hx, of_decide_eq_true e⟩, fun ⟨x, hx, e⟩ => ⟨x, hx, decide_eq_true e⟩⟩
theorem look_out : ∀ {d : Sm} {w : Wd}, w ∉ keys d → look d w = 0
  | [], _, _ => rfl
  | kv :: r, w, h => by
    have h1 : kv.1 ≠ w := fun e => h (List.mem_map.mpr ⟨kv, List.mem_cons_self, e⟩)
    have h2 : w ∉ keys r := fun e => h (List.mem_cons_of_mem _ e)
    show (if kv.1 = w then kv.2 else look r w) = 0
    rw [if_neg h1, look_out h2]
theorem I_out {w : Wd} : ∀ {d : Sm}, w ∉ keys d → I d (fun u => dl u w) = 0
  | [], _ => rfl
  | kv :: r, h => by
    have h1 : kv.1 ≠ w := fun e => h (List.mem_map.mpr ⟨kv, List.mem_cons_self, e⟩)
    have h2 : w ∉ keys r := fun e => h (List.mem_cons_of_mem _ e)
    rw [I_cons, I_out h2]
    show kv.2 * dl kv.1 w + 0 = 0
    unfold dl
    rw [if_neg h1, Int.mul_zero, Int.add_zero]
theorem nodup_cons {kv : Wd × Int} {r : Sm} (h : (keys (kv :: r)).Nodup) : kv.1 ∉ keys r ∧ (keys r).Nodup := by
  have h' : (kv.1 :: keys r).Nodup := h
  exact List.nodup_cons.mp h'
theorem look_I {w : Wd} : ∀ {d : Sm}, (keys d).Nodup → look d w = I d (fun u => dl u w)
  | [], _ => rfl
  | kv :: r, h => by
    obtain ⟨h1, h2⟩ := nodup_cons h
    rw [I_cons]
    show (if kv.1 = w then kv.2 else look r w) = kv.2 * dl kv.1 w + _
    by_cases e : kv.1 = w
    · rw [if_pos e, I_out (by rw [← e]; exact h1)]
      unfold dl
      rw [if_pos e, Int.mul_one, Int.add_zero]
    · rw [if_neg e, look_I h2]
      unfold dl
      rw [if_neg e, Int.mul_zero, Int.zero_add]
theorem I_repl {w : Wd} {c : Int} (h : Wd → Int) : ∀ {d : Sm}, (keys d).Nodup → w ∈ keys d → I (d.map (fun kv => if kv.1 = w then (kv.1, c) else kv)) h = I d h + (c - look d w) * h w
  | [], _, hm => by cases hm
  | kv :: r, hn, hm => by
    obtain ⟨h1, h2⟩ := nodup_cons hn
    rw [List.map_cons, I_cons, I_cons]
    show _ = _ + (c - (if kv.1 = w then kv.2 else look r w)) * h w
    by_cases e : kv.1 = w
    · have same : r.map (fun kv => if kv.1 = w then (kv.1, c) else kv) = r := by
        refine Eq.trans (List.map_congr_left (g := id) fun x hx => ?_) (List.map_id r)
        rw [if_neg (fun z => h1 (List.mem_map.mpr ⟨x, hx, z.trans e.symm⟩))]
        rfl
      rw [same, if_pos e, if_pos e]
      show c * h kv.1 + I r h = _
      rw [e, Int.sub_mul]
      omega
    · have hm' : w ∈ keys r := by
        rcases List.mem_cons.mp hm with z | z
        · exact absurd z.symm e
        · exact z
      rw [if_neg e, if_neg e, I_repl h h2 hm']
      omega
theorem keys_repl (w : Wd) (c : Int) (d : Sm) : keys (d.map (fun kv => if kv.1 = w then (kv.1, c) else kv)) = keys d := by
  unfold keys
  rw [List.map_map]
  refine List.map_congr_left fun x _ => ?_
  show (if x.1 = w then (x.1, c) else x).1 = x.1
  by_cases e : x.1 = w
  · rw [if_pos e]
  · rw [if_neg e]
theorem I_addTo {d : Sm} (hn : (keys d).Nodup) (w : Wd) (c : Int) (h : Wd → Int) : I (addTo d w c) h = I d h + c * h w := by
  unfold addTo put
  by_cases e : hasK d w = true
  · rw [if_pos e, I_repl h hn (hasK_iff.mp e)]
    rw [show look d w + c - look d w = c by omega]
  · rw [if_neg e, I_append, look_out fun z => e (hasK_iff.mpr z), Int.zero_add]
    show I d h + (c * h w + 0) = _
    rw [Int.add_zero]
theorem keys_addTo {d : Sm} (hn : (keys d).Nodup) (w : Wd) (c : Int) : (keys (addTo d w c)).Nodup := by
  unfold addTo put
  by_cases e : hasK d w = true
  · rw [if_pos e, keys_repl]; exact hn
  · rw [if_neg e]
    unfold keys
    rw [List.map_append]
    refine List.nodup_append.mpr ⟨hn, by simp, fun a ha b hb => ?_⟩
    have hb' : b = w := by simpa using hb
    rw [hb']
    exact fun z => e (hasK_iff.mpr (z ▸ ha))
theorem mem_keys_addTo {d : Sm} {w : Wd} {c : Int} {v : Wd} (h : v ∈ keys (addTo d w c)) : v ∈ keys d ∨ v = w := by
  unfold addTo put at h
  by_cases e : hasK d w = true
  · rw [if_pos e, keys_repl] at h; exact .inl h
  · rw [if_neg e] at h
    unfold keys at h
    rw [List.map_append] at h
    rcases List.mem_append.mp h with h | h
    · exact .inl h
    · exact .inr (by simpa using h)
theorem len_addTo (d : Sm) (w : Wd) (c : Int) : (addTo d w c).length ≤ d.length + 1 := by
  unfold addTo put
  by_cases e : hasK d w = true
  · rw [if_pos e, List.length_map]; omega
  · rw [if_neg e, List.length_append]; exact Nat.le_refl _

/-! ### letters, exchanges -/
def at0 (w : Wd) (i : Nat) : Int := w.getD i 0
def swp (w : Wd) (i : Nat) : Wd := w.take i ++ at0 w (i + 1) :: at0 w i :: w.drop (i + 2)
def ledWord (q : Int) (w : Wd) (i : Nat) : Sm :=
  if at0 w i = at0 w (i + 1) then [(w, q)] else if at0 w i < at0 w (i + 1) then [(swp w i, 1)] else [(swp w i, q), (w, q - 1)]
/-- what an exchange does to what is read off words -/
def Ts (q : Int) (i : Nat) (h : Wd → Int) (w : Wd) : Int := I (ledWord q w i) h
theorem Ts_eq (q : Int) (i : Nat) (h : Wd → Int) (w : Wd) :
    Ts q i h w = if at0 w i = at0 w (i + 1) then q * h w else if at0 w i < at0 w (i + 1) then h (swp w i) else q * h (swp w i) + (q - 1) * h w := by
  unfold Ts ledWord
  split
  · show q * h w + 0 = _
    rw [Int.add_zero]
  · split
    · show 1 * h (swp w i) + 0 = _
      rw [Int.add_zero, Int.one_mul]
    · show q * h (swp w i) + ((q - 1) * h w + 0) = _
      rw [Int.add_zero]
theorem split2 {w : Wd} {i : Nat} (h : i + 1 < w.length) : w = w.take i ++ at0 w i :: at0 w (i + 1) :: w.drop (i + 2) := by
  have h0 : i < w.length := by omega
  have e0 : at0 w i = w[i] := by unfold at0; rw [List.getD_eq_getElem?_getD, List.getElem?_eq_getElem h0]; rfl
  have e1 : at0 w (i + 1) = w[i + 1] := by unfold at0; rw [List.getD_eq_getElem?_getD, List.getElem?_eq_getElem h]; rfl
  rw [e0, e1, ← List.drop_eq_getElem_cons h, ← List.drop_eq_getElem_cons h0, List.take_append_drop]
theorem at0_app {u t : Wd} {x : Int} : at0 (u ++ x :: t) u.length = x := by
  unfold at0
  rw [List.getD_eq_getElem?_getD, List.getElem?_append_right (Nat.le_refl _), Nat.sub_self]
  rfl
theorem at0_app1 {u t : Wd} {x y : Int} : at0 (u ++ x :: y :: t) (u.length + 1) = y := by
  unfold at0
  rw [List.getD_eq_getElem?_getD, List.getElem?_append_right (by omega), show u.length + 1 - u.length = 1 by omega]
  rfl
theorem swp_app {u t : Wd} {x y : Int} : swp (u ++ x :: y :: t) u.length = u ++ y :: x :: t := by
  unfold swp
  rw [at0_app, at0_app1, List.take_left, List.drop_append, show u.length + 2 - u.length = 2 by omega, List.drop_eq_nil_of_le (show u.length ≤ u.length + 2 by omega), List.nil_append]
  rfl
/-- an exchange of what is read, by the letters -/
theorem Ts_app (q : Int) (h : Wd → Int) (u t : Wd) (x y : Int) :
    Ts q u.length h (u ++ x :: y :: t) = if x = y then q * h (u ++ x :: y :: t) else if x < y then h (u ++ y :: x :: t) else q * h (u ++ y :: x :: t) + (q - 1) * h (u ++ x :: y :: t) := by
  rw [Ts_eq, at0_app, at0_app1, swp_app]
theorem Ts_app' (q : Int) (h : Wd → Int) {i : Nat} {u t : Wd} {x y : Int} (e : u.length = i) :
    Ts q i h (u ++ x :: y :: t) = if x = y then q * h (u ++ x :: y :: t) else if x < y then h (u ++ y :: x :: t) else q * h (u ++ y :: x :: t) + (q - 1) * h (u ++ x :: y :: t) := by
  rw [← e]; exact Ts_app q h u t x y
theorem Ts_lin (q : Int) (i : Nat) (g : Sm) (F : Wd → Wd → Int) (w : Wd) : Ts q i (fun w' => I g (fun u => F u w')) w = I g (fun u => Ts q i (fun w' => F u w') w) := by
  unfold Ts
  exact I_comm F (ledWord q w i) g
theorem Ts_mul (q : Int) (i : Nat) (c : Int) (h : Wd → Int) (w : Wd) : Ts q i (fun w' => c * h w') w = c * Ts q i h w := by
  unfold Ts
  exact I_mul c h _
theorem Ts_congr {q : Int} {i : Nat} {h g : Wd → Int} {w : Wd} (e : ∀ v, h v = g v) : Ts q i h w = Ts q i g w := by
  rw [show h = g from funext e]

/-! ### the rules of exchanges -/
theorem twice (q : Int) (h : Wd → Int) {i : Nat} {w : Wd} (hi : i + 1 < w.length) : Ts q i (Ts q i h) w = q * h w + (q - 1) * Ts q i h w := by
  have hl : (w.take i).length = i := by rw [List.length_take]; omega
  rw [split2 hi]
  generalize at0 w i = x
  generalize at0 w (i + 1) = y
  generalize w.take i = u at hl
  generalize w.drop (i + 2) = t
  rw [Ts_app' q _ hl, Ts_app' q h hl, Ts_app' q h hl]
  rcases Int.lt_trichotomy x y with c | c | c
  · have n1 : ¬ x = y := by omega
    have n2 : ¬ y = x := by omega
    have n3 : ¬ y < x := by omega
    rw [if_neg n1, if_pos c, if_neg n2, if_neg n3, if_neg n1, if_pos c]
  · subst c
    rw [if_pos rfl, if_pos rfl]
    grind
  · have n1 : ¬ x = y := by omega
    have n2 : ¬ y = x := by omega
    have n3 : ¬ x < y := by omega
    rw [if_neg n1, if_neg n3, if_neg n2, if_pos c, if_neg n1, if_neg n3]
theorem braid (q : Int) (h : Wd → Int) {i : Nat} {w : Wd} (hi : i + 2 < w.length) :
    Ts q i (Ts q (i + 1) (Ts q i h)) w = Ts q (i + 1) (Ts q i (Ts q (i + 1) h)) w := by
  have hl : (w.take i).length = i := by rw [List.length_take]; omega
  have h2 : (w.drop (i + 2)).length = w.length - (i + 2) := List.length_drop
  rw [split2 (show i + 1 < w.length by omega)]
  generalize at0 w i = a
  generalize at0 w (i + 1) = b
  generalize w.take i = u at hl
  obtain ⟨c, t, et⟩ : ∃ c t, w.drop (i + 2) = c :: t := by
    cases q : w.drop (i + 2) with
    | nil => rw [q, List.length_nil] at h2; omega
    | cons c t => exact ⟨c, t, rfl⟩
  rw [et]
  have A : ∀ (h : Wd → Int) (x y z : Int), Ts q i h (u ++ x :: y :: z :: t) = if x = y then q * h (u ++ x :: y :: z :: t) else if x < y then h (u ++ y :: x :: z :: t) else q * h (u ++ y :: x :: z :: t) + (q - 1) * h (u ++ x :: y :: z :: t) := fun h x y z => Ts_app' q h hl
  have B : ∀ (h : Wd → Int) (x y z : Int), Ts q (i + 1) h (u ++ x :: y :: z :: t) = if y = z then q * h (u ++ x :: y :: z :: t) else if y < z then h (u ++ x :: z :: y :: t) else q * h (u ++ x :: z :: y :: t) + (q - 1) * h (u ++ x :: y :: z :: t) := fun h x y z => by
    have e : ∀ p r : Int, u ++ x :: p :: r :: t = (u ++ [x]) ++ p :: r :: t := fun p r => by rw [List.append_assoc]; rfl
    rw [e y z, e z y]
    exact Ts_app' q h (by rw [List.length_append, hl]; rfl)
  generalize e1 : h (u ++ a :: b :: c :: t) = f1
  generalize e2 : h (u ++ a :: c :: b :: t) = f2
  generalize e3 : h (u ++ b :: a :: c :: t) = f3
  generalize e4 : h (u ++ b :: c :: a :: t) = f4
  generalize e5 : h (u ++ c :: a :: b :: t) = f5
  generalize e6 : h (u ++ c :: b :: a :: t) = f6
  rcases Int.lt_trichotomy a b with ab | ab | ab <;> rcases Int.lt_trichotomy b c with bc | bc | bc <;> rcases Int.lt_trichotomy a c with ac | ac | ac
  all_goals try (exfalso; omega)
  case inr.inl.inr.inl.inr.inl =>
    subst ab
    subst bc
    simp only [A, B, if_true]
  case inr.inr.inr.inr.inr.inr =>
    have n1 : ¬ a = b := by omega
    have n2 : ¬ a < b := by omega
    have n3 : ¬ a = c := by omega
    have n4 : ¬ a < c := by omega
    have n5 : ¬ b = c := by omega
    have n6 : ¬ b < c := by omega
    have n7 : ¬ b = a := by omega
    have n8 : ¬ c = a := by omega
    have n9 : ¬ c = b := by omega
    simp only [A, B, n1, n2, n3, n4, n5, n6, n7, n8, n9, ab, bc, ac, if_true, if_false, e1, e2, e3, e4, e5, e6]
    clear A B e1 e2 e3 e4 e5 e6
    simp only [Int.mul_add, Int.add_mul, Int.sub_mul, Int.mul_sub, Int.one_mul, Int.mul_one, Int.mul_left_comm, Int.mul_comm, Int.mul_assoc]
    omega
  all_goals (subst_vars; simp only [A, B, Int.lt_irrefl, if_true, if_false]; grind)
theorem apart (q : Int) (h : Wd → Int) {i j : Nat} {w : Wd} (hj : j + 2 ≤ i) (hi : i + 1 < w.length) : Ts q i (Ts q j h) w = Ts q j (Ts q i h) w := by
  have hl : (w.take j).length = j := by rw [List.length_take]; omega
  have hlt : (w.drop (j + 2)).length = w.length - (j + 2) := List.length_drop
  rw [split2 (show j + 1 < w.length by omega)]
  generalize at0 w j = a
  generalize at0 w (j + 1) = b
  generalize w.take j = u at hl
  generalize w.drop (j + 2) = v at hlt
  have hk : i - (j + 2) + 1 < v.length := by omega
  have hm : (v.take (i - (j + 2))).length = i - (j + 2) := by rw [List.length_take]; omega
  rw [split2 hk]
  generalize at0 v (i - (j + 2)) = c
  generalize at0 v (i - (j + 2) + 1) = d
  generalize v.take (i - (j + 2)) = m at hm
  generalize v.drop (i - (j + 2) + 2) = t
  have A : ∀ (h : Wd → Int) (x y z r : Int), Ts q j h (u ++ x :: y :: (m ++ z :: r :: t)) = if x = y then q * h (u ++ x :: y :: (m ++ z :: r :: t)) else if x < y then h (u ++ y :: x :: (m ++ z :: r :: t)) else q * h (u ++ y :: x :: (m ++ z :: r :: t)) + (q - 1) * h (u ++ x :: y :: (m ++ z :: r :: t)) := fun h x y z r => Ts_app' q h hl
  have B : ∀ (h : Wd → Int) (x y z r : Int), Ts q i h (u ++ x :: y :: (m ++ z :: r :: t)) = if z = r then q * h (u ++ x :: y :: (m ++ z :: r :: t)) else if z < r then h (u ++ x :: y :: (m ++ r :: z :: t)) else q * h (u ++ x :: y :: (m ++ r :: z :: t)) + (q - 1) * h (u ++ x :: y :: (m ++ z :: r :: t)) := fun h x y z r => by
    have e : ∀ p s : Int, u ++ x :: y :: (m ++ p :: s :: t) = (u ++ x :: y :: m) ++ p :: s :: t := fun p s => by rw [List.append_assoc]; rfl
    rw [e z r, e r z]
    exact Ts_app' q h (by rw [List.length_append, hl, List.length_cons, List.length_cons, hm]; omega)
  generalize e1 : h (u ++ a :: b :: (m ++ c :: d :: t)) = f1
  generalize e2 : h (u ++ a :: b :: (m ++ d :: c :: t)) = f2
  generalize e3 : h (u ++ b :: a :: (m ++ c :: d :: t)) = f3
  generalize e4 : h (u ++ b :: a :: (m ++ d :: c :: t)) = f4
  simp only [A, B, e1, e2, e3, e4]
  clear A B e1 e2 e3 e4
  by_cases c1 : a = b <;> by_cases c2 : a < b <;> by_cases c3 : c = d <;> by_cases c4 : c < d <;> simp only [c1, c2, c3, c4, if_true, if_false] <;>
    simp only [Int.mul_add, Int.add_mul, Int.sub_mul, Int.mul_sub, Int.one_mul, Int.mul_one, Int.mul_left_comm, Int.mul_comm, Int.mul_assoc] <;> omega

/-! ### falls and weights -/
def fl : Wd → Nat
  | [] => 0
  | a :: r => (r.filter fun x => decide (x < a)).length + fl r
theorem fl_swap {x y : Int} (h : x < y) (t : Wd) : ∀ u : Wd, fl (u ++ y :: x :: t) = fl (u ++ x :: y :: t) + 1
  | [] => by
    have n : ¬ y < x := by omega
    show ((x :: t).filter fun z => decide (z < y)).length + ((t.filter fun z => decide (z < x)).length + fl t) = ((y :: t).filter fun z => decide (z < x)).length + ((t.filter fun z => decide (z < y)).length + fl t) + 1
    rw [List.filter_cons_of_pos (by simpa using h), List.filter_cons_of_neg (by simpa using Int.not_lt.mp n), List.length_cons]
    omega
  | a :: u => by
    show ((u ++ y :: x :: t).filter fun z => decide (z < a)).length + fl (u ++ y :: x :: t) = ((u ++ x :: y :: t).filter fun z => decide (z < a)).length + fl (u ++ x :: y :: t) + 1
    rw [fl_swap h t u, (((List.Perm.swap x y t).append_left u).filter fun z => decide (z < a)).length_eq]
    omega
/-- the falls that begin at place k -/
def cnt (w : Wd) (k : Nat) : Nat := ((w.drop (k + 1)).filter fun x => decide (x < at0 w k)).length
theorem cnt_sum : ∀ w : Wd, ((List.range w.length).map fun k => (cnt w k : Int)).sum = (fl w : Int)
  | [] => rfl
  | a :: r => by
    have ih := cnt_sum r
    rw [List.length_cons, List.range_succ_eq_map, List.map_cons, List.sum_cons, List.map_map]
    have e : (List.range r.length).map ((fun k => (cnt (a :: r) k : Int)) ∘ Nat.succ) = (List.range r.length).map fun k => (cnt r k : Int) := List.map_congr_left fun k _ => rfl
    rw [e, ih]
    show (((r.filter fun x => decide (x < a)).length : Nat) : Int) + (fl r : Int) = ((((r.filter fun x => decide (x < a)).length + fl r : Nat)) : Int)
    omega
def pw (p q : Int) : Nat → Int
  | 0 => 1
  | n + 1 => pw p q n * q % p
theorem pw_succ (p q : Int) (n : Nat) : Eqp p (pw p q (n + 1)) (q * pw p q n) := by
  rw [Int.mul_comm]
  exact Eqp.mod p _
/-- what the form tells, ahead of the last remainder -/
def fm (p q : Int) (one other : Sm) : Int := I one fun w => look other w * pw p q (fl w)
theorem fm_double {p q : Int} {one other : Sm} (h : (keys other).Nodup) : fm p q one other = I one (fun w => I other (fun u => dl u w * pw p q (fl w))) := by
  unfold fm
  refine I_congr fun kv _ => ?_
  rw [look_I h, Int.mul_comm, ← I_mul]
  exact I_congr fun x _ => Int.mul_comm _ _
theorem fm_comm {p q : Int} {one other : Sm} (h : (keys one).Nodup) (g : (keys other).Nodup) : fm p q one other = fm p q other one := by
  rw [fm_double g, fm_double h, I_comm]
  refine I_congr fun u _ => I_congr fun w _ => ?_
  show dl u.1 w.1 * pw p q (fl w.1) = dl w.1 u.1 * pw p q (fl u.1)
  rw [dl_mul u.1 w.1 (fun w => pw p q (fl w)), dl_comm]
theorem at0_swp {w : Wd} {i : Nat} (h : i + 1 < w.length) : at0 (swp w i) i = at0 w (i + 1) ∧ at0 (swp w i) (i + 1) = at0 w i ∧ swp (swp w i) i = w ∧ (swp w i).length = w.length := by
  have hl : (w.take i).length = i := by rw [List.length_take]; omega
  have hd : (w.drop (i + 2)).length = w.length - (i + 2) := List.length_drop
  have e := split2 h
  have a1 : at0 (swp w i) i = at0 w (i + 1) := by
    have z := at0_app (u := w.take i) (t := at0 w i :: w.drop (i + 2)) (x := at0 w (i + 1))
    rw [hl] at z; exact z
  have a2 : at0 (swp w i) (i + 1) = at0 w i := by
    have z := at0_app1 (u := w.take i) (t := w.drop (i + 2)) (x := at0 w (i + 1)) (y := at0 w i)
    rw [hl] at z; exact z
  have a3 : swp (swp w i) i = w := by
    have z := swp_app (u := w.take i) (t := w.drop (i + 2)) (x := at0 w (i + 1)) (y := at0 w i)
    rw [hl] at z
    exact z.trans e.symm
  refine ⟨a1, a2, a3, ?_⟩
  unfold swp
  rw [List.length_append, List.length_cons, List.length_cons, hl, hd]
  omega
theorem fl_swp {w : Wd} {i : Nat} (h : i + 1 < w.length) (c : at0 w i < at0 w (i + 1)) : fl (swp w i) = fl w + 1 := by
  have z := fl_swap c (w.drop (i + 2)) (w.take i)
  rw [← split2 h] at z
  exact z
/-- the table of an exchange, weighed by falls, is the same both ways -/
theorem msym {p q : Int} {i : Nat} {w u : Wd} (hw : i + 1 < w.length) (hu : i + 1 < u.length) :
    Eqp p (Ts q i (dl u) w * pw p q (fl u)) (Ts q i (dl w) u * pw p q (fl w)) := by
  by_cases e : u = w
  · rw [e]; rfl
  · obtain ⟨w1, w2, w3, _⟩ := at0_swp hw
    obtain ⟨u1, u2, u3, _⟩ := at0_swp hu
    have d1 : dl u w = 0 := if_neg e
    have d2 : dl w u = 0 := if_neg fun z => e z.symm
    by_cases f : u = swp w i
    · have f' : swp u i = w := by rw [f, w3]
      have d3 : dl u (swp w i) = 1 := if_pos f
      have d4 : dl w (swp u i) = 1 := if_pos f'.symm
      rw [Ts_eq, Ts_eq, d1, d2, d3, d4]
      rw [f, w1, w2]
      rcases Int.lt_trichotomy (at0 w i) (at0 w (i + 1)) with c | c | c
      · have n1 : ¬ at0 w i = at0 w (i + 1) := by omega
        have n2 : ¬ at0 w (i + 1) = at0 w i := by omega
        have n3 : ¬ at0 w (i + 1) < at0 w i := by omega
        rw [if_neg n1, if_pos c, if_neg n2, if_neg n3, fl_swp hw c, Int.one_mul, Int.mul_one, Int.mul_zero, Int.add_zero]
        exact pw_succ p q _
      · exfalso
        refine e (f.trans ?_)
        conv => rhs; rw [split2 hw]
        unfold swp
        rw [c]
      · have n1 : ¬ at0 w i = at0 w (i + 1) := by omega
        have n2 : ¬ at0 w (i + 1) = at0 w i := by omega
        have n3 : ¬ at0 w i < at0 w (i + 1) := by omega
        have hs : fl w = fl (swp w i) + 1 := by
          have z := fl_swp (w := swp w i) (i := i) (by rw [(at0_swp hw).2.2.2]; exact hw) (by rw [w1, w2]; exact c)
          rw [w3] at z
          exact z
        rw [if_neg n1, if_neg n3, if_neg n2, if_pos c, hs, Int.one_mul, Int.mul_one, Int.mul_zero, Int.add_zero]
        exact (pw_succ p q _).symm
    · have g : ¬ w = swp u i := fun z => f (by rw [z, u3])
      have d3 : dl u (swp w i) = 0 := if_neg f
      have d4 : dl w (swp u i) = 0 := if_neg g
      have z1 : Ts q i (dl u) w = 0 := by
        rw [Ts_eq, d1, d3]
        split
        · exact Int.mul_zero q
        · split
          · rfl
          · rw [Int.mul_zero, Int.mul_zero]; rfl
      have z2 : Ts q i (dl w) u = 0 := by
        rw [Ts_eq, d2, d4]
        split
        · exact Int.mul_zero q
        · split
          · rfl
          · rw [Int.mul_zero, Int.mul_zero]; rfl
      rw [z1, z2, Int.zero_mul, Int.zero_mul]
      rfl

/-! ### words, tidy sums -/
def Wrd (n : Nat) (w : Wd) : Prop := w.length = n ∧ ∀ x ∈ w, 1 ≤ x ∧ x ≤ 16
/-- a sum of words of n letters -/
structure Sum (n : Nat) (d : Sm) : Prop where
  nd : (keys d).Nodup
  wd : ∀ kv ∈ d, Wrd n kv.1
/-- .. with numbers from 1 to p - 1, ascending by the code cd -/
structure Canon (cd : Wd → Int) (p : Int) (n : Nat) (e : Sm) : Prop where
  wd : ∀ kv ∈ e, Wrd n kv.1
  vl : ∀ kv ∈ e, 0 < kv.2 ∧ kv.2 < p
  up : e.Pairwise fun a b => cd a.1 < cd b.1
/-- e tells the same as d modulo p, under every reading -/
def Alike (p : Int) (d e : Sm) : Prop := ∀ h, Eqp p (I e h) (I d h)
variable {cd : Wd → Int} {p : Int} {n : Nat}
theorem Canon.sum {e : Sm} (c : Canon cd p n e) : Sum n e := by
  refine ⟨?_, c.wd⟩
  unfold keys
  rw [List.nodup_iff_pairwise_ne, List.pairwise_map]
  exact c.up.imp fun {a b} h z => by rw [z] at h; exact Int.lt_irrefl _ h
theorem Canon.tail {kv : Wd × Int} {r : Sm} (c : Canon cd p n (kv :: r)) : Canon cd p n r :=
  ⟨fun x hx => c.wd x (List.mem_cons_of_mem _ hx), fun x hx => c.vl x (List.mem_cons_of_mem _ hx), (List.pairwise_cons.mp c.up).2⟩
theorem look_mem {d : Sm} {w : Wd} (h : look d w ≠ 0) : w ∈ keys d := by
  by_cases e : w ∈ keys d
  · exact e
  · exact absurd (look_out e) h
theorem look_val : ∀ {d : Sm} {kv : Wd × Int}, (keys d).Nodup → kv ∈ d → look d kv.1 = kv.2
  | x :: r, kv, hn, hm => by
    obtain ⟨h1, h2⟩ := nodup_cons hn
    show (if x.1 = kv.1 then x.2 else look r kv.1) = kv.2
    rcases List.mem_cons.mp hm with z | z
    · rw [z, if_pos rfl]
    · have ne : ¬ x.1 = kv.1 := fun q => h1 (q ▸ List.mem_map.mpr ⟨kv, z, rfl⟩)
      rw [if_neg ne, look_val h2 z]
theorem Canon.bd {e : Sm} (c : Canon cd p n e) (hp : 0 < p) (w : Wd) : 0 ≤ look e w ∧ look e w < p := by
  by_cases h : w ∈ keys e
  · obtain ⟨kv, hm, rfl⟩ := List.mem_map.mp h
    have z := look_val c.sum.nd hm
    have v := c.vl kv hm
    rw [z]; omega
  · rw [look_out h]; omega
theorem Canon.look_eq {e f : Sm} (hp : 0 < p) (c : Canon cd p n e) (d : Canon cd p n f) (h : ∀ g, Eqp p (I e g) (I f g)) (w : Wd) : look e w = look f w := by
  have a := c.bd hp w
  have b := d.bd hp w
  have z : look e w % p = look f w % p := by
    rw [look_I c.sum.nd, look_I d.sum.nd]
    exact h _
  rwa [Int.emod_eq_of_lt a.1 a.2, Int.emod_eq_of_lt b.1 b.2] at z
theorem Canon.one_of (inj : ∀ v w, Wrd n v → Wrd n w → cd v = cd w → v = w) : ∀ {e f : Sm}, Canon cd p n e → Canon cd p n f → (∀ w, look e w = look f w) → e = f
  | [], [], _, _, _ => rfl
  | [], kv :: r, _, d, h => by
    have z := h kv.1
    rw [look_val d.sum.nd List.mem_cons_self] at z
    have v := (d.vl kv List.mem_cons_self).1
    have z' : (0 : Int) = kv.2 := z
    omega
  | kv :: r, [], c, _, h => by
    have z := h kv.1
    rw [look_val c.sum.nd List.mem_cons_self] at z
    have v := (c.vl kv List.mem_cons_self).1
    have z' : kv.2 = (0 : Int) := z
    omega
  | a :: r, b :: s, c, d, h => by
    have va := look_val c.sum.nd (List.mem_cons_self (a := a) (l := r))
    have vb := look_val d.sum.nd (List.mem_cons_self (a := b) (l := s))
    have pa := (c.vl a List.mem_cons_self).1
    have pb := (d.vl b List.mem_cons_self).1
    have ma : a.1 ∈ keys (b :: s) := look_mem (by rw [← h, va]; omega)
    have mb : b.1 ∈ keys (a :: r) := look_mem (by rw [h, vb]; omega)
    have ka : cd b.1 ≤ cd a.1 := by
      rcases List.mem_cons.mp (show a.1 ∈ b.1 :: keys s from ma) with z | z
      · rw [z]; exact Int.le_refl _
      · obtain ⟨x, hx, e⟩ := List.mem_map.mp z
        rw [← e]
        exact Int.le_of_lt ((List.pairwise_cons.mp d.up).1 x hx)
    have kb : cd a.1 ≤ cd b.1 := by
      rcases List.mem_cons.mp (show b.1 ∈ a.1 :: keys r from mb) with z | z
      · rw [z]; exact Int.le_refl _
      · obtain ⟨x, hx, e⟩ := List.mem_map.mp z
        rw [← e]
        exact Int.le_of_lt ((List.pairwise_cons.mp c.up).1 x hx)
    have e1 : a.1 = b.1 := inj _ _ (c.wd a List.mem_cons_self) (d.wd b List.mem_cons_self) (Int.le_antisymm kb ka)
    have e2 : a.2 = b.2 := by rw [← va, ← vb, h, e1]
    have ab : a = b := Prod.ext e1 e2
    subst ab
    rw [Canon.one_of inj c.tail d.tail fun w => ?_]
    by_cases q : a.1 = w
    · rw [← q, look_out (nodup_cons c.sum.nd).1, look_out (nodup_cons d.sum.nd).1]
    · have z := h w
      have z' : (if a.1 = w then a.2 else look r w) = (if a.1 = w then a.2 else look s w) := z
      rw [if_neg q, if_neg q] at z'
      exact z'
/-- tidy sums that tell the same are one -/
theorem Canon.one (inj : ∀ v w, Wrd n v → Wrd n w → cd v = cd w → v = w) (hp : 0 < p) {e f : Sm} (c : Canon cd p n e) (d : Canon cd p n f) (h : ∀ g, Eqp p (I e g) (I f g)) : e = f :=
  Canon.one_of inj c d (c.look_eq hp d h)
/-- a sum by its keys, in any sequence -/
theorem I_perm (h : Wd → Int) {d e : Sm} (q : d.Perm e) : I d h = I e h := by
  induction q with
  | nil => rfl
  | cons x _ ih => rw [I_cons, I_cons, ih]
  | swap x y l => rw [I_cons, I_cons, I_cons, I_cons]; omega
  | trans _ _ a b => exact a.trans b
theorem by_keys {d : Sm} (hn : (keys d).Nodup) : (keys d).map (fun w => (w, look d w)) = d := by
  unfold keys
  rw [List.map_map]
  refine Eq.trans (List.map_congr_left (g := id) fun kv hm => ?_) (List.map_id d)
  show (kv.1, look d kv.1) = kv
  rw [look_val hn hm]
/-- what plain_sum makes of the keys in the sequence ys -/
def tidy (p : Int) (d : Sm) (ys : List Wd) : Sm := (ys.filter fun w => look d w % p != 0).map fun w => (w, look d w % p)
theorem I_tidy (p : Int) (d : Sm) (h : Wd → Int) : ∀ ys : List Wd, Eqp p (I (tidy p d ys) h) (I (ys.map fun w => (w, look d w)) h)
  | [] => rfl
  | y :: ys => by
    have ih := I_tidy p d h ys
    unfold tidy at ih ⊢
    rw [List.map_cons, I_cons]
    by_cases e : look d y % p = 0
    · rw [List.filter_cons_of_neg (by simp [e])]
      refine ih.trans ?_
      have z : Eqp p (look d y * h y) 0 := by
        have z' := (show Eqp p (look d y) 0 by unfold Eqp; rw [e, Int.zero_emod]).mul (Eqp.refl p (h y))
        rwa [Int.zero_mul] at z'
      have w := (z.symm).add (Eqp.refl p (I (ys.map fun w => (w, look d w)) h))
      rwa [Int.zero_add] at w
    · rw [List.filter_cons_of_pos (by simp [e]), List.map_cons, I_cons]
      exact ((Eqp.mod p _).mul (Eqp.refl p (h y))).add ih
theorem tidy_ok {d : Sm} {ys : List Wd} (hp : 0 < p) (s : Sum n d) (pm : ys.Perm (keys d)) (up : ys.Pairwise fun a b => cd a < cd b) : Canon cd p n (tidy p d ys) ∧ Alike p d (tidy p d ys) ∧ (tidy p d ys).length ≤ d.length := by
  refine ⟨⟨fun kv hm => ?_, fun kv hm => ?_, ?_⟩, fun h => ?_, ?_⟩
  · obtain ⟨w, hw, rfl⟩ := List.mem_map.mp hm
    obtain ⟨x, hx, e⟩ := List.mem_map.mp (pm.mem_iff.mp (List.mem_filter.mp hw).1)
    show Wrd n w
    rw [← e]; exact s.wd x hx
  · obtain ⟨w, hw, rfl⟩ := List.mem_map.mp hm
    have z : look d w % p ≠ 0 := by simpa using (List.mem_filter.mp hw).2
    have a := Int.emod_nonneg (look d w) (show p ≠ 0 by omega)
    have b := Int.emod_lt_of_pos (look d w) hp
    show 0 < look d w % p ∧ look d w % p < p
    omega
  · unfold tidy
    rw [List.pairwise_map]
    exact up.filter _
  · refine (I_tidy p d h ys).trans (Eqp.of_eq ?_)
    rw [I_perm h (pm.map fun w => (w, look d w)), by_keys s.nd]
  · unfold tidy
    rw [List.length_map]
    refine Nat.le_trans (List.length_filter_le _ _) ?_
    rw [pm.length_eq]
    unfold keys
    rw [List.length_map]
    exact Nat.le_refl _
/-- a rising sequence without equals rises strictly -/
theorem strict (inj : ∀ v w, Wrd n v → Wrd n w → cd v = cd w → v = w) {ys : List Wd} (wd : ∀ w ∈ ys, Wrd n w) (nd : ys.Nodup) (up : ys.Pairwise fun a b => cd a ≤ cd b) : ys.Pairwise fun a b => cd a < cd b := by
  refine (List.Pairwise.and up (List.nodup_iff_pairwise_ne.mp nd)).imp_of_mem fun {a b} ha hb h => ?_
  have ne : cd a ≠ cd b := fun z => h.2 (inj a b (wd a ha) (wd b hb) z)
  have := h.1
  omega
end K9

set_option Elab.async false
set_option linter.all false
set_option maxRecDepth 100000
set_option maxHeartbeats 4000000
/-! rules that the layer lacks, over sums of words -/
namespace K9
open PySem PySem.Spec PyProof.Rows L2

/-! ### sums of words as dicts -/
def ek (w : Wd) : List L2.Key := w.map Sum.inl
def enc (d : Sm) : List (List L2.Key × V) := d.map fun kv => (ek kv.1, V.int kv.2)
theorem ek_kV (w : Wd) : (ek w).map kV = w.map V.int := by
  unfold ek
  rw [List.map_map]
  rfl
theorem ek_inj : ∀ {v w : Wd}, ek v = ek w → v = w
  | [], [], _ => rfl
  | [], _ :: _, h => nomatch h
  | _ :: _, [], h => nomatch h
  | x :: v, y :: w, h => by
    have h' : (Sum.inl x : L2.Key) :: ek v = Sum.inl y :: ek w := h
    injection h' with h1 h2
    injection h1 with h1
    rw [h1, ek_inj h2]
theorem ek_eq {v w : Wd} : ek v = ek w ↔ v = w := ⟨ek_inj, fun h => by rw [h]⟩
theorem enc_length (d : Sm) : (enc d).length = d.length := List.length_map ..
theorem valV_enc (w : Wd) : ∀ d : Sm, valV (enc d) (ek w) = if hasK d w = true then some (V.int (look d w)) else none
  | [] => rfl
  | kv :: r => by
    have ih := valV_enc w r
    show valV ((ek kv.1, V.int kv.2) :: enc r) (ek w) = if (decide (kv.1 = w) || hasK r w) = true then some (V.int (if kv.1 = w then kv.2 else look r w)) else none
    by_cases e : kv.1 = w
    · rw [valV_pos (show (ek kv.1, V.int kv.2).1 = ek w by show ek kv.1 = ek w; rw [e]), if_pos e, decide_eq_true e, Bool.true_or, if_pos rfl]
    · rw [valV_neg (show ¬ (ek kv.1, V.int kv.2).1 = ek w from fun z => e (ek_inj z)), if_neg e, decide_eq_false e, Bool.false_or]
      exact ih
theorem valV_getD (w : Wd) (d : Sm) : (valV (enc d) (ek w)).getD (V.int 0) = V.int (look d w) := by
  rw [valV_enc]
  by_cases e : hasK d w = true
  · rw [if_pos e]; rfl
  · rw [if_neg e, look_out fun z => e (hasK_iff.mpr z)]; rfl
theorem putK_enc (w : Wd) (c : Int) (d : Sm) : putK (enc d) (ek w) (V.int c) = enc (put d w c) := by
  have h1 : ((enc d).any fun kv => decide (kv.1 = ek w)) = hasK d w := by
    unfold enc hasK
    rw [List.any_map]
    congr 1
    funext kv
    exact decide_eq_decide.mpr ek_eq
  unfold putK put
  rw [h1]
  by_cases e : hasK d w = true
  · rw [if_pos e, if_pos e]
    unfold enc
    rw [List.map_map, List.map_map]; refine List.map_congr_left fun kv _ => ?_
    show (if ek kv.1 = ek w then (ek kv.1, V.int c) else (ek kv.1, V.int kv.2)) = (fun kv : Wd × Int => (ek kv.1, V.int kv.2)) (if kv.1 = w then (kv.1, c) else kv)
    by_cases q : kv.1 = w
    · rw [if_pos q, if_pos (ek_eq.mpr q)]
    · rw [if_neg q, if_neg fun z => q (ek_inj z)]
  · rw [if_neg e, if_neg e]
    unfold enc
    rw [List.map_append]
    rfl
/-- a sum stands at a -/
abbrev SumAt (H : Hp) (a : Addr) (d : Sm) : Prop := H a = some (.dT (enc d))
/-- a word stands at b -/
abbrev WrdAt (H : Hp) (b : Addr) (w : Wd) : Prop := H b = some (.tup (w.map V.int))
theorem WrdAt.key {H : Hp} {b : Addr} {w : Wd} (h : WrdAt H b w) : H b = some (.tup ((ek w).map kV)) := by rw [ek_kV]; exact h
theorem dget_rd {H : Hp} {a b : Addr} {d : Sm} {w : Wd} (h : Rd H a (.dT (enc d))) (hb : WrdAt H b w) : DGet H a (.ref b) (if hasK d w = true then some (V.int (look d w)) else none) :=
  .inr ⟨enc d, ek w, b, h, rfl, hb.key, (valV_enc w d).symm⟩

section
variable {X : Cx}
/-! ### sorted of a sum's words -/
def adr : Value → Addr
  | .ref a => a
  | _ => 0
theorem refs_words {H : Hp} {h : Heap} : ∀ {d : Sm} {ks : List (List L2.Key × Addr × Value)}, KT H (enc d) ks → (∀ (b : Addr) (w : Wd), WrdAt H b w → TS.TupInts h (.ref b) w) →
    (∀ v ∈ ks.map (fun x => Value.ref x.2.1), v = Value.ref (adr v) ∧ ∃ kv ∈ d, WrdAt H (adr v) kv.1 ∧ TS.TupInts h v kv.1) ∧ (ks.map fun x => Value.ref x.2.1).map (TS.intsOf h) = keys d
  | [], [], _, _ => ⟨fun v hv => (nomatch hv), rfl⟩
  | kv :: r, _, t, hw => by
    cases t with
    | @cons _ q _ qs h1 t =>
      obtain ⟨i1, i2⟩ := refs_words (d := r) (ks := qs) t hw
      have hb : WrdAt H q.2.1 kv.1 := by
        have z := h1.2.1
        rw [ek_kV] at z
        exact z
      have ht := hw _ _ hb
      refine ⟨fun v hv => ?_, ?_⟩
      · rcases List.mem_cons.mp hv with e | hv
        · subst e
          exact ⟨rfl, kv, List.mem_cons_self, hb, ht⟩
        · obtain ⟨a1, kv', a2, a3⟩ := i1 v hv
          exact ⟨a1, kv', List.mem_cons_of_mem _ a2, a3⟩
      · rw [List.map_cons, List.map_cons, i2, ht.ints]
        rfl
def rSortD (n : Nat) (B : Int) : List V → Hp → VK → Prop := fun vs H Q => ∃ (a : Addr) (d : Sm), vs = [V.ref a] ∧ Rd H a (.dT (enc d)) ∧ d.length < 64 ∧ (∀ kv ∈ d, kv.1.length = n ∧ TS.Bd B kv.1) ∧
  ∀ (L : List (Addr × Wd)) (p : Addr), (∀ x ∈ L, WrdAt H x.1 x.2) → (L.map (·.2)).Perm (keys d) → L.Pairwise (fun x y => TS.code B x.2 ≤ TS.code B y.2) → H p = none → Q (.ref p) (upd H p (.lst (L.map fun x => V.ref x.1)))
theorem cr_sortD (hc : X.calm = true) {n : Nat} {B : Int} (hn : 1 ≤ n) : CallR X (.builtin "sorted") (rSortD n B) := by
  intro pins s σ H vs us Q I r hq
  obtain ⟨a, d, rfl, hd, h64, hB, q⟩ := hq
  rw [Vals.ref1 r]
  obtain ⟨z, hs, ks, pr, o, es, ep, ho, hx, hdt, he, hnod⟩ := (show ObjOk X.prog X.w H s.heap a (.dT (enc d)) from hd.ok I.hok)
  have l1 : ks.length = es.size := (size_of_entries he).symm
  have l2 : d.length = ks.length := (enc_length d).symm.trans (Paired.length pr)
  refine Calls.call_function_entry kind_sorted plain_sorted entry_sorted (args_sorted1 _) ?_; unfold Builtin.«sorted»
  refine wpAny_bind (m := checkCount "sorted" 1 1 _) <| wpAny_pure <| wpAny_bind (PySem.W.kdu_collect (A := X.A.in1) (kdl_raw hs hx hdt) (I.ok.hd hc) ho (by rw [← l1, ← l2, sizeLine_eq]; omega) fun h' tk acc hk hacc => ?_)
  have J1 : Inv X pins σ H { s with heap := h', toks := tk } := I.kept hk
  have ea : acc.toList = ks.map fun x => Value.ref x.2.1 := by
    apply List.ext_getElem?
    intro j
    have hl : acc.toList.length = ks.length := by rw [Array.length_toList, hacc.1, ← l1]
    cases hj : acc.toList[j]? with
    | none =>
      have k1 := List.getElem?_eq_none_iff.mp hj
      exact (List.getElem?_eq_none (by rw [List.length_map]; omega)).symm
    | some v =>
      obtain ⟨en, hen, hv⟩ := hacc.2 j v (by rw [← Array.getElem?_toList]; exact hj)
      have k1 := entry_at he j
      rw [hen] at k1
      rw [List.getElem?_map]
      cases kb : ks[j]? with
      | none =>
        rw [kb] at k1
        cases k1
      | some b =>
        rw [kb] at k1
        rw [hv, Option.some.inj k1]
        rfl
  have lv : acc.toList.length = d.length := by rw [ea, List.length_map, l2]
  refine wpAny_bind (wpAny_newList ?_ (by rw [lv, sizeLine_eq]; omega))
  have hlay : (h'.push (seqObj "list" acc.toList.toArray 0)).get? h'.objs.size = some (seqObj "list" acc.toList.toArray 0) := Heap.get?_push_size _ rfl
  have hw : ∀ (b : Addr) (w : Wd), WrdAt H b w → TS.TupInts (h'.push (seqObj "list" acc.toList.toArray 0)) (.ref b) w := fun b w e =>
    (tupI_raw J1 (.inl (.inl e))).keeps fun c u e' _ => Heap.get?_push_of_some _ e'
  obtain ⟨w1, w2⟩ := refs_words pr hw
  rw [← ea] at w1 w2
  show wpAny _ _ _ _ _ { s with heap := h'.push (seqObj "list" acc.toList.toArray 0), toks := tk }
  refine wpAny_bind (wpAny_holding (TS.call_sort_tups (B := B) (s := { s with heap := h'.push (seqObj "list" acc.toList.toArray 0), toks := tk }) hlay (by rw [lv]; exact h64) hn (fun v hv => ?_) fun out a1 a2 => ?_))
  · obtain ⟨_, kv, hm, _, t⟩ := w1 v hv
    exact ⟨kv.1, t, hB kv hm⟩
  · obtain ⟨c, hcell⟩ := sortedHeap_at (vs := acc.toList) (out := out) hlay
    have old : ∀ b u, h'.get? b = some u → (sortedHeap (h'.push (seqObj "list" acc.toList.toArray 0)) h'.objs.size acc.toList out).get? b = some u := fun b u e => by
      have lt := Heap.lt_size e
      rw [sortedHeap_old (Nat.ne_of_lt lt) (by rw [Heap.size_push]; exact Nat.lt_succ_of_lt lt)]
      exact (Heap.get?_push_of_some _ e : _)
    have fine : ∀ u ∈ out.toList, u = Value.ref (adr u) ∧ ∃ kv ∈ d, WrdAt H (adr u) kv.1 ∧ TS.TupInts (h'.push (seqObj "list" acc.toList.toArray 0)) u kv.1 := fun u hu => w1 u (a1.mem_iff.mp hu)
    let L : List (Addr × Wd) := out.toList.map fun u => (adr u, TS.intsOf (h'.push (seqObj "list" acc.toList.toArray 0)) u)
    have e1 : L.map (fun x => V.ref x.1) = out.toList.map fun u => V.ref (adr u) := by
      show (out.toList.map _).map _ = _
      rw [List.map_map]
      rfl
    have hv : Vals (L.map fun x => V.ref x.1) out.toList := by
      rw [e1]
      generalize out.toList = us at fine
      clear a1 a2
      induction us with
      | nil => exact .nil
      | cons u us ih => exact .cons (show u = Value.ref (adr u) from (fine u List.mem_cons_self).1) (ih fun y hy => fine y (List.mem_cons_of_mem _ hy))
    have hn2 : H h'.objs.size = none := J1.hok.fresh (Nat.le_refl _)
    have hlen : (L.map fun x => V.ref x.1).length ≤ sizeLine := by
      rw [e1, List.length_map, a1.length_eq, lv, sizeLine_eq]
      omega
    refine wpAny_pure ⟨_, rfl, .ref h'.objs.size, upd H h'.objs.size (.lst (L.map fun x => V.ref x.1)), J1.laid (t' := tk) (o := .lst (L.map fun x => V.ref x.1)) old (Nat.le_refl _) (show ObjOk X.prog X.w _ _ _ (.lst _) from ⟨hlen, out.toList, c, hv, hcell⟩), rfl, q L _ (fun x hx => ?_) ?_ ?_ hn2⟩
    · obtain ⟨u, hu, rfl⟩ := List.mem_map.mp hx
      obtain ⟨_, kv, _, k1, k2⟩ := fine u hu
      show WrdAt H (adr u) (TS.intsOf _ u)
      rw [k2.ints]
      exact k1
    · show ((out.toList.map _).map _).Perm _
      rw [List.map_map, ← w2]
      exact a1.map _
    · show (out.toList.map _).Pairwise _
      rw [List.pairwise_map]
      exact a2
end
end K9

set_option Elab.async false
set_option linter.all false
set_option maxRecDepth 100000
set_option maxHeartbeats 4000000
/-! more rules: dict of pairs, != of sums, max with default, len(set(..)), calls by keywords alone -/
namespace K9
open PySem PySem.Spec PyProof.Rows L2
section
variable {X : Cx}
/-! ### dict(pairs), the keys words -/
/-- at p stands the pair of a word and a number -/
def PairW (H : Hp) (p : Addr) (kv : Wd × Int) : Prop := ∃ b, WrdAt H b kv.1 ∧ H p = some (.tup [V.ref b, V.int kv.2])
theorem stored_all {κ : Type} [DecidableEq κ] : ∀ (ps acc : List (κ × Addr × Value)), ((acc ++ ps).map (·.1)).Nodup → storedAllH acc ps = acc ++ ps
  | [], acc, _ => (List.append_nil acc).symm
  | p :: ps, acc, h => by
    have h1 : acc ++ p :: ps = (acc ++ [p]) ++ ps := by rw [List.append_assoc]; rfl
    have no : atKey acc p.1 = none := by
      unfold atKey
      rw [Option.map_eq_none_iff, List.find?_eq_none]
      intro x hx
      have q := h
      rw [List.map_append] at q
      have z := (List.nodup_append.mp q).2.2 x.1 (List.mem_map.mpr ⟨x, hx, rfl⟩) p.1 (List.mem_cons_self)
      simpa using z
    show storedAllH (storedH acc p.1 p.2.1 p.2.2) ps = _
    rw [storedH_new no, h1]
    exact stored_all ps (acc ++ [p]) (by rw [← h1]; exact h)
theorem pairs_raw {pins : List (Addr × Obj)} {σ : L2.St} {H : Hp} {s : Shared} (I : Inv X pins σ H s) : ∀ {ps : List Addr} {d : Sm}, Paired (PairW H) ps d →
    ∃ xs : List (List L2.Key × Addr × Value), KT H (enc d) xs ∧ xs.length = ps.length ∧ ∀ (j : Nat) (x : List L2.Key × Addr × Value), xs[j]? = some x → ∃ T, ps[j]? = some T ∧ PairAt s.heap T (.ref x.2.1) x.2.2
  | [], _, .nil => ⟨[], .nil, rfl, fun j x e => by simp at e⟩
  | p :: ps, kv :: d, .cons h t => by
    obtain ⟨xs, i1, i2, i3⟩ := pairs_raw I t
    obtain ⟨b, hb, hp⟩ := h
    obtain ⟨its, rv, ht, _⟩ := I.tuple (.inl (.inl hp))
    obtain ⟨u1, u2, rfl, r1, r2⟩ := vals2 rv
    obtain rfl : u1 = Value.ref b := r1
    refine ⟨(ek kv.1, b, u2) :: xs, .cons ⟨rfl, hb.key, r2⟩ i1, by rw [List.length_cons, List.length_cons, i2], fun j x e => ?_⟩
    cases j with
    | zero =>
      have e' : (ek kv.1, b, u2) = x := by simpa using e
      subst e'
      exact ⟨p, by simp, .inl ht⟩
    | succ j =>
      obtain ⟨T, e1, e2⟩ := i3 j x (by simpa using e)
      exact ⟨T, by simpa using e1, e2⟩
theorem kt_mem {H : Hp} : ∀ {kvs : List (List L2.Key × V)} {xs : List (List L2.Key × Addr × Value)}, KT H kvs xs → ∀ x ∈ xs, ∃ kv ∈ kvs, kv.1 = x.1 ∧ H x.2.1 = some (.tup (kv.1.map kV)) ∧ RelV kv.2 x.2.2
  | _, _, .nil, x, hx => (nomatch hx)
  | _, _, .cons h t, x, hx => by
    rcases List.mem_cons.mp hx with e | hy
    · subst e
      exact ⟨_, List.mem_cons_self, h⟩
    · obtain ⟨kv, m, z⟩ := kt_mem t x hy
      exact ⟨kv, List.mem_cons_of_mem _ m, z⟩
theorem kt_keys {H : Hp} : ∀ {kvs : List (List L2.Key × V)} {xs : List (List L2.Key × Addr × Value)}, KT H kvs xs → xs.map (·.1) = kvs.map (·.1)
  | _, _, .nil => rfl
  | _, _, .cons h t => by rw [List.map_cons, List.map_cons, kt_keys t, h.1]
theorem enc_nodup {d : Sm} (h : (keys d).Nodup) : ((enc d).map (·.1)).Nodup := by
  have e : (enc d).map (·.1) = (keys d).map ek := by
    unfold enc keys
    rw [List.map_map, List.map_map]
    rfl
  rw [e, List.nodup_iff_pairwise_ne, List.pairwise_map]
  exact (List.nodup_iff_pairwise_ne.mp h).imp fun ne z => ne (ek_inj z)
def rDictD (K : PySem.W.Frag) : List V → Hp → VK → Prop := fun vs H Q => ∃ (a : Addr) (ps : List Addr) (d : Sm), vs = [V.ref a] ∧ SqL K H a (ps.map V.ref) ∧ Paired (PairW H) ps d ∧ (keys d).Nodup ∧
  ∀ p, H p = none → Q (.ref p) (upd H p (.dT (enc d)))
theorem cr_dictD (hc : X.calm = true) (hu : X.A.units + 64 < cLine) : CallR X (.type "dict") (rDictD X.K) := by
  intro pins s σ H vs us Q I r hq
  obtain ⟨a, ps, d, rfl, hl, hp, hn, q⟩ := hq
  rw [Vals.ref1 r]
  obtain ⟨its, rv, ⟨o, c, ho, hcl, hdi, hdat⟩, hz⟩ := I.list hl
  have ei := refs_at rv
  subst ei
  rw [List.length_map] at hz
  obtain ⟨xs, kt, lx, hx⟩ := pairs_raw I hp
  have nd : ((([] : List (List L2.Key × Addr × Value)) ++ xs).map (·.1)).Nodup := by
    rw [List.nil_append, kt_keys kt]
    exact enc_nodup hn
  have is0 : ∀ x ∈ xs, (tupleKind (mixKind X.prog X.w)).is s.heap x.1 x.2.1 := fun x m => by
    obtain ⟨kv, _, e1, e2, _⟩ := kt_mem kt x m
    rw [← e1]
    exact key_of I.hok e2
  refine call_dict_pairsH (knd := tupleKind (mixKind X.prog X.w)) (ps := xs) (PairArg.list a (ps.map Value.ref).toArray (fun j => ps.getD j 0) (xs.map fun x => (Value.ref x.2.1, x.2.2))) (I.ok.hd hc)
    (by show X.A.units + 1 + 1 < cLine; omega) ⟨⟨o, c, ho, hcl, hdi, hdat⟩, by simp [lx], fun j k v e => ?_⟩ ⟨by simp, fun j k v e => ?_⟩ (fun h' hk x m => ?_) (by rw [List.length_map, lx]; exact hz) fun h' tk hd hk => ?_
  · rw [List.getElem?_map] at e
    cases e1 : xs[j]? with
    | none => rw [e1] at e; cases e
    | some x =>
      rw [e1] at e
      have e2 : (Value.ref x.2.1, x.2.2) = (k, v) := Option.some.inj e
      injection e2 with e3 e4
      obtain ⟨T, t1, t2⟩ := hx j x e1
      have t3 : ps.getD j 0 = T := by rw [List.getD_eq_getElem?_getD, t1]; rfl
      refine ⟨?_, ?_⟩
      · simp [t1, t3]
      · show PairAt s.heap (ps.getD j 0) k v
        rw [t3, ← e3, ← e4]
        exact t2
  · have e : (xs.map fun x => (Value.ref x.2.1, x.2.2))[j]? = some (k, v) := e
    rw [List.getElem?_map] at e
    cases e1 : xs[j]? with
    | none => rw [e1] at e; cases e
    | some x =>
      rw [e1] at e
      have e2 : (Value.ref x.2.1, x.2.2) = (k, v) := Option.some.inj e
      injection e2 with e3 e4
      exact ⟨x.1, x.2.1, by rw [← e4], e3.symm⟩
  · exact tupleKind_stays.stays (fun b u _ _ e _ => hk b u (Nat.ne_of_lt (Heap.lt_size e)) (by simp) e) (is0 x m)
  · rw [stored_all xs [] nd, List.nil_append] at hd
    obtain ⟨o2, es, ep, g1, g2, g3, g4, g5, g6⟩ := hd
    have hf := I.hok.fresh (Nat.le_refl s.heap.objs.size)
    have ld : d.length = xs.length := (enc_length d).symm.trans (Paired.length kt)
    refine ⟨.ref s.heap.objs.size, upd H s.heap.objs.size (.dT (enc d)), I.laid (t' := tk) (fun b u e => hk b u (by simp) e) (Nat.le_refl _) (show ObjOk X.prog X.w _ _ _ (.dT (enc d)) from ⟨?_, ?_, xs, ?_, o2, es, ep, g1, g2, g3, g4, g6⟩), rfl, q _ hf⟩
    · rw [enc_length, ld, lx]; exact hz
    · exact beq_eq_false_iff_ne.mpr (Nat.ne_of_gt I.big)
    · exact kt.keeps fun b ys e => by rw [upd_ne (ne_of_none e hf)]; exact e

/-! ### len(set(xs)), xs equal ints -/
theorem met_same (n : Int) (m : Nat) : ∀ i, i ≤ m → firstMet (fun j => (List.replicate m n).getD j 0) i = if i = 0 then [] else [n]
  | 0, _ => rfl
  | i + 1, h => by
    have e : (List.replicate m n).getD i 0 = n := by rw [List.getD_eq_getElem?_getD, List.getElem?_replicate, if_pos (by omega)]; rfl
    have no : ¬ i + 1 = 0 := by omega
    rw [firstMet_succ, met_same n m i (by omega), e, if_neg no]
    by_cases z : i = 0
    · rw [if_pos z]; rfl
    · rw [if_neg z]
      unfold step_dedup
      rw [if_pos (by simp)]
def tLenSetE (K : PySem.W.Frag) (ta : TE) : TE := fun σ H Q => ta σ H fun x H1 => ∃ (l : Addr) (n : Int) (m : Nat), x = V.ref l ∧ SqL K H1 l ((List.replicate m n).map V.int) ∧ m < 64 ∧ Q (.int (if m = 0 then 0 else 1)) H1
theorem pe_lenSetE {a : Expr} {ta : TE} {p p2 q pos : Pos} (hc : X.calm = true) (g1 : Gl X "len") (m1 : X.mg "len" = none) (g2 : Gl X "set") (m2 : X.mg "set" = none) (ha : PE X a ta)
    (na : starEach [a] X.env = (false, eval a X.env) :: starEach [] X.env := by rfl) : PE X (.Call (.Name "len" p) [.Call (.Name "set" p2) [a] [] q] [] pos) (tLenSetE X.K ta) := by
  refine ⟨fun pins s σ H Q I h => Call_ (ld_blt I g1 m1 PySem.boot_len (callWith_builtin1 (args_cons (Call_ (ld_blt I g2 m2 boot_set (callWith_type1 (args_cons ?_ na) na rfl))) rfl) rfl rfl))⟩
  refine thn (ha.run pins s σ H _ I h) fun v s1 ⟨x, H1, I1, r1, l, n, m, ex, hq, h1, q1⟩ => args_nil ?_
  subst ex
  cases r1
  obtain ⟨its, r, pl, hz⟩ := I1.list hq; have hl : its.toArray.size = m := by rw [List.size_toArray, ← r.length, List.length_map, List.length_replicate]
  refine call_set_list (I1.ok.hd hc) pl.isList (ns := List.replicate m n) (by simpa using r.ints) (by rw [hl]; unfold scanBound; omega) fun h' tk hS hk => ?_
  rw [hl, met_same n m m (Nat.le_refl _)] at hS
  obtain ⟨o, es, ep, t, ho, hxs, hd, _, _, _, hf, hn⟩ := hS
  have hk2 : es.size = if m = 0 then 0 else 1 := by
    rw [hn]
    by_cases z : m = 0
    · rw [if_pos z, if_pos z]; rfl
    · rw [if_neg z, if_neg z]; rfl
  have I2 : Inv X pins σ H1 { s1 with heap := h', toks := tk } := I1.kept fun b u e => hk b u (Heap.lt_size e) e
  refine args_nil (call_len_set ho hxs hd hf (by rw [hk2]; split <;> decide) ⟨.int _, H1, I2.tok _, ⟨_, rfl⟩, ?_⟩)
  rw [hk2]
  have e : ((if m = 0 then 0 else 1 : Nat) : Int) = if m = 0 then 0 else 1 := by split <;> rfl
  rw [e]
  exact q1

/-! ### f(k = v, ..), no positional argument -/
section
variable {CX : CXT} {k : Nat} {f : Addr} {fd : FuncData} {ps ks : List Str} {sp : Sp} {E : XK} {x : Str} {p pos : Pos} {kws : List Keyword} {tk : TA} {g : List Value → List Value → List Value} {gV : List V → List V → List V}
theorem pe_callK0 (F : FnOk X.prog X.w X.K X.mg X.base CX k f fd ps sp) (hr : Room k X.A) (hg : Gl X x) (hm : X.mg x = some (.ref f)) (hk : PySem.W.keepIn X.K (.ref f) = true) (hb : KBinds X.K fd ps ks g gV) (hx : Passes CX X E)
    (hkw : PK X kws tk) (hall : (backToKw pos (keywordEach kws X.env)).all (·.1.isSome) = true := by rfl) (hks : (backToKw pos (keywordEach kws X.env)).filterMap (·.1) = ks := by rfl)
    (hdb : (x == ("__debug__" : Str)) = false := by decide) (hpl : ((backTo pos (starEach [] X.env)).any (·.1) || (backToKw pos (keywordEach kws X.env)).any (·.1.isNone)) = false := by rfl) :
    PE X (.Call (.Name x p) [] kws pos) (fun σ H Q => tk σ H fun zs H2 => sp (gV [] zs) H2 Q E) := by
  refine ⟨fun pins s σ H Q I h => wpAny_Call_Name_kw (ld_glob I hg hm (PySem.W.callWith_KW0 (h₀ := X.base) I.ok.mod.kin hk hall (thn (hkw.run pos pins s σ H _ I h) fun ws s2 ⟨zs, H2, I2, rz, q2⟩ => ⟨I2.kIn, ?_⟩) hpl) hdb)⟩
  rw [hks]
  exact run_fnk F hr hb hx I2 Paired.nil rz q2
end
end
end K9

set_option Elab.async false
set_option linter.all false
set_option maxRecDepth 100000
set_option maxHeartbeats 400000
/-! max(xs, default=..) of equal ints; != of sums -/
namespace K9
open PySem PySem.Spec PyProof.Rows L2
theorem max_dflt_args (a v : Value) : argsOk "max" ⟨[a], [(Str.ofString "default", v)]⟩ := by
  unfold argsOk
  kernel_rfl
section
variable {prog : Program} {w : World} {A : Around} {R : Result → Shared → Prop} {it S : Addr} {fp wr : List Addr} {n : Nat} {P : Nat → Value → Prop} {T : Nat → Heap → Prop} {m : Int} {kw : List (Str × Value)}
theorem loop_name : (toString "max" ++ toString ".loop" : String) = "max.loop" := by decide
theorem gt_self {t u : Tok} {Q : Value → Shared → Prop} {E : Value → Shared → Prop} {s : Shared} (h : Q (.bool false) s) : wpAny (model prog w) A (richCompare .Gt (.int m t) (.int m u)) Q E s := by
  refine PySem.CmpOf.ints_gt (P := fun _ v => ∃ t, v = .int m t) (fun _ => m) (fun _ v x => x) 0 0 _ _ s Q E ⟨t, rfl⟩ ⟨u, rfl⟩ ?_
  show Q (.bool (decide (m > m))) s
  rw [decide_eq_false (Int.lt_irrefl m)]
  exact h
theorem max_same (W : Walks prog w A.in1 it fp wr n P T) (hP : ∀ i v, P i v → ∃ t, v = .int m t) (hS : S ∉ fp) : ∀ (k j : Nat) (s : Shared) (cur : Value) (c : Nat), n = j + 1 + k → T (j + 1) s.heap → (∃ t, cur = .int m t) →
    s.heap.get? S = some { cls := .type "list", dict := none, data := .seq #[cur, cur] c, slots := #[] } →
    (∀ v h' tk, (∃ t, v = .int m t) → (∀ b o, b ∉ wr → b ≠ S → s.heap.get? b = some o → h'.get? b = some o) → R (.ok (.ret v)) { s with heap := h', toks := tk }) →
    codeAny (model prog w) A (.builtin "max.loop" ⟨[.ref it, .none, .ref S], kw⟩) R s := by
  have hw : S ∉ wr := fun z => hS (W.sub _ z)
  intro k
  induction k with
  | zero =>
    intro j s cur c hn hst hv ho hR
    have e : j + 1 = n := by omega
    refine codeAny_builtin PySem.F.entry_max_loop ?_; rw [Around.under_plainId PySem.F.plain_max_loop _]
    refine wpAny_bind (wpAny_seqItems ho rfl (wpAny_bind (wpAny_tryCatch (W.done s _ _ (e ▸ hst) fun h' tk hk => ?_))))
    have ho' := hk S _ hw ho
    refine wpAny_bind (wpAny_updateSeq ho' rfl (wpAny_bind (wpAny_letGo (wpAny_pure ?_))))
    exact hR cur _ tk hv fun b o h1 h2 q => (Heap.get?_update_other _ _ (Ne.symm h2)).trans (hk b o h1 q)
  | succ k ih =>
    intro j s cur c hn hst hv ho hR
    obtain ⟨u, rfl⟩ := hv
    refine codeAny_builtin PySem.F.entry_max_loop ?_; rw [Around.under_plainId PySem.F.plain_max_loop _]
    refine wpAny_bind (wpAny_seqItems ho rfl (wpAny_bind (wpAny_tryCatch (W.item (j + 1) s _ _ (by omega) hst fun v h' tk hv hst' hk => ?_))))
    obtain ⟨t, rfl⟩ := hP _ _ hv
    have ho' := hk S _ hw ho
    refine wpAny_bind <| wpAny_pure <| wpAny_bind (wpAny_tryCatch (wpAny_holding (wpAny_bind (gt_self ?_))))
    refine wpAny_bind (wpAny_holding (wpAny_truthy_bool (wpAny_bind (wpAny_letGo (wpAny_pure ?_)))))
    rw [if_neg (by decide)]
    refine wpAny_bind (wpAny_letGo ?_); rw [loop_name]
    refine wpAny_pure ⟨plainId_quiet PySem.F.plain_max_loop _, ih (j + 1) _ _ c (by omega) hst' ⟨u, rfl⟩ ho' fun v' h2 tk2 hv' hk2 => ?_⟩
    exact hR v' h2 tk2 hv' fun b o h1 h3 q => hk2 b o h1 h3 (hk b o h1 q)
theorem max_first (W : Walks prog w A.in1 it fp wr n P T) (hP : ∀ i v, P i v → ∃ t, v = .int m t) (hS : S ∉ fp) (hn : 0 < n) {s : Shared} {c : Nat} (hst : T 0 s.heap)
    (ho : s.heap.get? S = some { cls := .type "list", dict := none, data := .seq #[] c, slots := #[] })
    (hR : ∀ v h' tk, (∃ t, v = .int m t) → (∀ b o, b ∉ wr → b ≠ S → s.heap.get? b = some o → h'.get? b = some o) → R (.ok (.ret v)) { s with heap := h', toks := tk }) :
    codeAny (model prog w) A (.builtin "max.loop" ⟨[.ref it, .none, .ref S], kw⟩) R s := by
  have hw : S ∉ wr := fun z => hS (W.sub _ z)
  refine codeAny_builtin PySem.F.entry_max_loop ?_; rw [Around.under_plainId PySem.F.plain_max_loop _]
  refine wpAny_bind (wpAny_seqItems ho rfl (wpAny_bind (wpAny_tryCatch (W.item 0 s _ _ hn hst fun v h' tk hv hst' hk => ?_))))
  have ho' := hk S _ hw ho
  refine wpAny_bind <| wpAny_pure <| wpAny_bind (wpAny_updateSeq (xs := #[]) ho' rfl ?_ (by decide) (by show 2 ≤ sizeLine + 1; decide))
  rw [loop_name]
  refine wpAny_pure ⟨plainId_quiet PySem.F.plain_max_loop _, max_same W hP hS (n - 1) 0 _ v _ (by omega) (W.frame _ _ _ hst' fun b hb o q => ?_) (hP _ _ hv) (Heap.get?_update_self _ ho' rfl) fun v' h2 tk2 hv' hk2 => ?_⟩
  · exact (Heap.get?_update_other _ _ (fun z : S = b => hS (z ▸ hb))).trans q
  · exact hR v' h2 tk2 hv' fun b o h1 h3 q => hk2 b o h1 h3 ((Heap.get?_update_other _ _ (Ne.symm h3)).trans (hk b o h1 q))
end
section
variable {X : Cx}
/-- max(xs, default=v), xs so many times the same int, not none -/
def rMaxDf (K : PySem.W.Frag) : List V → List V → Hp → VK → Prop := fun vs zs H Q => ∃ (a : Addr) (m : Int) (c : Nat) (z : V), vs = [V.ref a] ∧ zs = [z] ∧ SqL K H a ((List.replicate (c + 1) m).map V.int) ∧ Q (.int m) H
theorem cr_maxDf (hc : X.calm = true) : CallRK X (.builtin "max") [Str.ofString "default"] (rMaxDf X.K) := by
  intro pins s σ H vs zs us ws Q I r rz hq
  obtain ⟨a, m, c, z, rfl, rfl, hl, q⟩ := hq
  rw [Vals.ref1 r]
  obtain ⟨d, rfl, _⟩ := vals1 rz
  obtain ⟨its, rv, pl, hz⟩ := I.list hl; have li : its.toArray.size = c + 1 := by rw [List.size_toArray, ← rv.length, List.length_map, List.length_replicate]
  have hin : IntsAre its (List.replicate (c + 1) m) := by simpa using rv.ints
  obtain ⟨o, k, ho, _⟩ := id pl
  have hlt := Heap.lt_size ho
  refine PyProof.Rows.kmk_tree PySem.F.kind_max PySem.F.plain_max PySem.F.entry_max (max_dflt_args _ _) ?_
  have kws : Builtin.Builtins.bindParams "max" ["key", "default"] 0 ⟨[], [(Str.ofString "default", d)]⟩ = pure [none, some d] := rfl
  refine wpAny_bind <| wpAny_of_eq kws <| wpAny_bind (wpAny_pure (wpAny_bind (wpAny_pyIter_list pl.isList ?_)))
  refine wpAny_bind (wpAny_newList ?_ (Nat.zero_le _)); rw [loop_name]
  have hne := Nat.ne_of_lt hlt
  have lb : (s.heap.push { cls := .type "list_iterator", data := .fields #[.ref a, .int 0 0] }).objs.size = s.heap.objs.size + 1 := Heap.size_push ..
  have W := Walks.list (prog := X.prog) (w := X.w) (A := X.A.in1) (I.ok.hd hc) s.heap.objs.size a hne its.toArray
  refine wpAny_pure ⟨plainId_quiet PySem.F.plain_max_loop _, max_first W (m := m) (fun i v e => ?_) ?_ (by rw [li]; exact Nat.succ_pos c) ⟨⟨_, Heap.get?_push_of_some _ (Heap.get?_push_size _ rfl), rfl, rfl⟩, ?_⟩ (Heap.get?_push_size _ rfl) fun v h' tk ⟨t, ev⟩ hk => ?_⟩
  · have e' : its[i]? = some v := by simpa using e
    obtain ⟨k2, t, e2, e1⟩ := hin.at i v e'
    refine ⟨t, ?_⟩
    rw [List.getElem?_replicate] at e1
    split at e1
    · cases e1; exact e2
    · cases e1
  · rw [lb]
    simp only [List.mem_cons, List.not_mem_nil, or_false, not_or]
    exact ⟨Nat.succ_ne_self _, fun z => absurd (Nat.lt_succ_of_lt hlt) (by rw [← z]; exact Nat.lt_irrefl _)⟩
  · exact (pl.isList).at fun u e => Heap.get?_push_of_some _ (Heap.get?_push_of_some _ e)
  · subst ev
    exact ⟨.int m, H, I.kept (t' := tk) fun b u e => hk b u (by simpa using Nat.ne_of_lt (Heap.lt_size e)) (by rw [lb]; exact Nat.ne_of_lt (Nat.lt_succ_of_lt (Heap.lt_size e))) (Heap.get?_push_of_some _ (Heap.get?_push_of_some _ e)), ⟨t, rfl⟩, q⟩
/-! ### != of sums -/
theorem same_heap {s : Shared} {A : Around} {E : Value → Shared → Prop} {nm : String} {a b : Addr} {prog : Program} {w : World} {knd : HeapKind prog w (List L2.Key)} {xs ys : List (List L2.Key × Addr × Value)} {r : Bool} {Q : Bool → Shared → Prop} (hu : knd.room A)
    (ha : (a == sysModules) = false) (hb : (b == sysModules) = false) (da : s.heap.DictOfH knd a xs) (db : s.heap.DictOfH knd b ys)
    (hr : (xs.length ≠ ys.length ∧ r = false) ∨ (xs.length = ys.length ∧ r = true ∧ ∀ x ∈ xs, ∃ (j : Nat) (q : Addr) (c : Int) (t u : Tok), ys[j]? = some (x.1, q, .int c u) ∧ x.2.2 = .int c t)) (h : Q r s) :
    wpAny (model prog w) A (Builtin.Dict.samePairs nm a b) Q E s
  := by
  obtain ⟨oa, es, ep, ga, _, gd, hea, hka, _⟩ := da
  obtain ⟨ob, es', ep', gb, _, ge, heb, hkb, hnb⟩ := db
  have la : es.size = xs.length := size_of_entries hea
  have lb : es'.size = ys.length := size_of_entries heb
  unfold Builtin.Dict.samePairs; unfold Builtin.Dict.showsAll
  rw [if_neg (by rw [ha]; exact Bool.false_ne_true), if_neg (by rw [hb]; exact Bool.false_ne_true)]
  refine wpAny_bind (wpAny_pure (wpAny_bind (wpAny_pure (wpAny_bind (wpAny_dictEntries ga gd ?_)))))
  dsimp only
  refine wpAny_bind (wpAny_dictEntries gb ge ?_)
  rcases hr with ⟨hne, rfl⟩ | ⟨heq, rfl, hall⟩
  · rw [if_pos (by simpa [la, lb] using hne)]
    exact wpAny_bind <| wpAny_rule <| wpAny_pure h
  · rw [if_neg (by simp [la, lb, heq])]
    refine wpAny_bind (wpAny_dictEpoch ga gd (wpAny_bind ?_))
    simp only [Std.Legacy.Range.forIn_eq_forIn_range', Std.Legacy.Range.size, Nat.sub_zero, Nat.add_sub_cancel, Nat.div_one]
    refine wpAny_forIn_list _ (fun rest q s' => s' = s ∧ q = (none, ()) ∧ ∃ i, rest = List.range' i (es.size - i) ∧ i ≤ es.size) _ ?_ ?_ _ _ ⟨rfl, rfl, 0, by simp, Nat.zero_le _⟩
    · rintro x rest q s' ⟨rfl, rfl, i, hrest, hi⟩
      have hlt : i < es.size := by
        by_cases z : i < es.size
        · exact z
        · rw [Nat.sub_eq_zero_of_le (by omega)] at hrest
          cases hrest
      rw [show es.size - i = (es.size - (i + 1)) + 1 by omega, List.range'_succ] at hrest
      injection hrest with e1 e2
      subst e1
      refine wpAny_bind (wpAny_dictEntries ga gd ?_)
      have hlx : x < xs.length := by omega
      have ee : es[x]? = some (entryOfKey knd xs[x]) := by rw [entry_at hea, List.getElem?_eq_getElem hlx]; rfl
      rw [ee]
      obtain ⟨j, p, c, t, u, hy, hx⟩ := hall xs[x] (List.getElem_mem hlx)
      have hkey := hka xs[x] (List.getElem_mem hlx)
      refine wpAny_bind (wpAny_holding (wpAny_bind (wpAny_dictFind_heap hu hkey gb ge heb hkb hnb (fun no => absurd hy (no j _)) fun j' p' hj' => ?_)))
      refine wpAny_bind (wpAny_dictEntries gb ge ?_)
      have ej : j' = j := idxH_unique hnb hj' hy
      subst ej
      have e' : es'[j']? = some (entryOfKey knd (xs[x].1, p, .int c u)) := by rw [entry_at heb, hy]; rfl
      rw [e']
      refine wpAny_holding ?_
      show wpAny _ _ (eqBool xs[x].2.2 (.int c u)) _ _ _
      rw [hx]
      refine wpAny_eqBool_int ?_
      rw [beq_self_eq_true]
      show wpAny _ _ (if (!true) = true then _ else _) _ _ _; rw [if_neg (by decide)]
      refine wpAny_bind (wpAny_dictEpoch ga gd ?_)
      rw [if_neg (by simp)]
      exact wpAny_pure ⟨rfl, rfl, x + 1, e2, hlt⟩
    · rintro q s' ⟨rfl, rfl, i, hrest, hi⟩
      exact wpAny_pure h
def rNeD : R2 := fun x y H Q => ∃ (a b : Addr) (d e : Sm), x = .ref a ∧ y = .ref b ∧ SumAt H a d ∧ SumAt H b e ∧ ((d = e ∧ Q (.bl false) H) ∨ (d.length ≠ e.length ∧ Q (.bl true) H))
theorem kt_get {H : Hp} : ∀ {kvs : List (List L2.Key × V)} {xs : List (List L2.Key × Addr × Value)} {j : Nat} {kv : List L2.Key × V}, KT H kvs xs → kvs[j]? = some kv → ∃ x, xs[j]? = some x ∧ kv.1 = x.1 ∧ RelV kv.2 x.2.2
  | _, _, _, _, .nil, e => by simp at e
  | _, _, 0, kv, .cons h t, e => by
    have e' := Option.some.inj (show some _ = some kv from e)
    subst e'
    exact ⟨_, rfl, h.1, h.2.2⟩
  | _, _, j + 1, kv, .cons h t, e => by
    obtain ⟨x, e1, z⟩ := kt_get (j := j) t (show _ = some kv from e)
    exact ⟨x, e1, z⟩
theorem op_neD (hu : X.A.units + 64 < cLine) : OpR X (compareOp .NotEq) rNeD := by
  intro pins s σ H x y v u Q I rx ry hq
  obtain ⟨a, b, d, e, rfl, rfl, ha, hb, q⟩ := hq
  cases rx
  cases ry
  obtain ⟨_, ya, xs, ka, oa, es, ep, g1, g2, g3, g4, g5⟩ := (show ObjOk X.prog X.w H s.heap a (.dT (enc d)) from I.hok a _ ha)
  obtain ⟨_, yb, ys, kb, ob, es', ep', f1, f2, f3, f4, f5⟩ := (show ObjOk X.prog X.w H s.heap b (.dT (enc e)) from I.hok b _ hb)
  have isk : ∀ {m : Sm} {zs : List (List L2.Key × Addr × Value)}, KT H (enc m) zs → ∀ x ∈ zs, (tupleKind (mixKind X.prog X.w)).is s.heap x.1 x.2.1 := fun kt x m => by
    obtain ⟨kv, _, e1, e2, _⟩ := kt_mem kt x m
    rw [← e1]
    exact key_of I.hok e2
  have la : xs.length = d.length := (Paired.length ka).symm.trans (enc_length d)
  have lb : ys.length = e.length := (Paired.length kb).symm.trans (enc_length e)
  have ta : s.TypeIs (.ref a) "dict" := ⟨oa, g1, g2.1⟩
  have tb : s.TypeIs (.ref b) "dict" := ⟨ob, f1, f2.1⟩
  have DA : s.heap.DictOfH (tupleKind (mixKind X.prog X.w)) a xs := ⟨oa, es, ep, g1, g2, g3, g4, isk ka, g5⟩
  have DB : s.heap.DictOfH (tupleKind (mixKind X.prog X.w)) b ys := ⟨ob, es', ep', f1, f2, f3, f4, isk kb, f5⟩
  obtain ⟨r, hr, hfin⟩ : ∃ r : Bool, ((xs.length ≠ ys.length ∧ r = false) ∨ (xs.length = ys.length ∧ r = true ∧ ∀ x ∈ xs, ∃ (j : Nat) (q : Addr) (c : Int) (t u : Tok), ys[j]? = some (x.1, q, .int c u) ∧ x.2.2 = .int c t)) ∧ Q (.bl (!r)) H := by
    rcases q with ⟨rfl, q⟩ | ⟨hne, q⟩
    · refine ⟨true, .inr ⟨by rw [la, lb], rfl, fun x hx => ?_⟩, q⟩
      obtain ⟨j, hj, ex⟩ := List.getElem_of_mem hx
      obtain ⟨kv, hkv⟩ : ∃ kv, d[j]? = some kv := ⟨d[j]'(by omega), List.getElem?_eq_getElem _⟩
      have he : (enc d)[j]? = some (ek kv.1, V.int kv.2) := by
        unfold enc
        rw [List.getElem?_map, hkv]
        rfl
      obtain ⟨x1, i1, i2, i3⟩ := kt_get ka he
      obtain ⟨x2, j1, j2, j3⟩ := kt_get kb he
      rw [List.getElem?_eq_getElem hj, ex] at i1
      cases i1
      obtain ⟨t, i3⟩ := i3
      obtain ⟨u, j3⟩ := j3
      refine ⟨j, x2.2.1, kv.2, t, u, ?_, i3⟩
      rw [j1, ← i2, j2, ← j3]
    · exact ⟨false, .inl ⟨by rw [la, lb]; exact hne, rfl⟩, q⟩
  refine wpAny_richCompare_same_room (op := .NotEq) ta tb PySem.F.slot_dict_ne (wpAny_call_entry PySem.F.slot_dict_ne ta PySem.F.entry_dict_ne ?_ (PySem.F.args_dict_ne_2 _ _)) (by omega)
  refine wpAny_bind ?_
  unfold Builtin.Dict.dictSlotArgs; refine wpAny_bind (wpAny_notOrdered_dict ta ?_)
  refine wpAny_pure ?_
  refine wpAny_bind (wpAny_isInstance (T := "dict") tb PySem.F.sub_dict_dict ?_)
  rw [if_neg (by decide)]
  refine wpAny_bind (wpAny_pure (wpAny_bind (wpAny_pure (wpAny_bind (same_heap (knd := tupleKind (mixKind X.prog X.w)) (by show X.A.units + 1 < cLine; omega) ya yb DA DB hr ?_)))))
  refine wpAny_pure ⟨_, rfl, (fun z => nomatch z), fin_bl I hfin ?_⟩
  cases r <;> rfl
end
end K9

set_option Elab.async false
set_option linter.all false
set_option maxRecDepth 100000
set_option maxHeartbeats 1000000
/-! the text by places; what the top leaves; a def with its promise -/
namespace K9
open PySem PySem.Spec PyProof.Rows L2
def topS (i : Nat) : Stmt := PySem.Challenge.pw_boxparts_k09_whole_rules_and_form_of_exc.main.body.getD i (.Pass ⟨0, 0, 0, 0⟩)
/-- the built-in names that the text leaves alone -/
structure Bl (mg : Str → Option Value) : Prop where
  isinstance : mg "isinstance" = none
  int : mg "int" = none
  bool : mg "bool" = none
  list : mg "list" = none
  tuple : mg "tuple" = none
  dict : mg "dict" = none
  set : mg "set" = none
  len : mg "len" = none
  all : mg "all" = none
  sorted : mg "sorted" = none
  max : mg "max" = none
  min : mg "min" = none
  sum : mg "sum" = none
  range : mg "range" = none
  abs : mg "abs" = none
  repr : mg "repr" = none
  zip : mg "zip" = none
/-- a def of the text: it keeps its promise, and it is called by its name -/
structure Dn (P : Program) (w : World) (K : PySem.W.Frag) (mg : Str → Option Value) (base : Heap) (k : Nat) (nm : Str) (ps : List Str) (sp : Sp) (f : Addr) (fd : FuncData) : Prop where
  ok : FnOk P w K mg base CX0 k f fd ps sp
  g : mg nm = some (.ref f)
  kp : PySem.W.keepIn K (.ref f) = true
  b : Binds K fd ps []
theorem same_new {H : Hp} {p : Addr} {o : HO} (h : H p = none) : Same H (upd H p o) := fun b x e => by
  rw [upd_ne (ne_of_none e h)]
  exact e
theorem iteFe {b : Bool} {A B : Prop} (e : b = false) (h : B) : if b = true then A else B := by
  rw [e]
  exact iteF h
theorem iteTe {b : Bool} {A B : Prop} (e : b = true) (h : A) : if b = true then A else B := by
  rw [e]
  exact iteT h
theorem few {n : Nat} (h : n ≤ 1000) : n ≤ sizeLine := Nat.le_of_lt (small1000 h)
section
variable {P : Program} {w : World} {K : PySem.W.Frag} {mg : Str → Option Value} {base : Heap}
/-! ### is_number -/
theorem scNum : FnScope ["thing"] ["thing"] (defScope (topS 7)) := ⟨rfl, rfl, rfl, by decide +kernel, rfl, by decide +kernel, by decide +kernel⟩
def spNum : Sp := fun vs H Q _ => ∃ i : Int, vs = [.int i] ∧ Q (.bl true) H
theorem ok_num {f : Addr} {fd : FuncData} (F : Fun K "is_number" "is_number" (topS 7) f fd) (B : Bl mg) : FnOk P w K mg base CX0 1 f fd ["thing"] spNum := by
  refine F.ok scNum (fun vs H Q E h => ?_) (fun cdv A outer s H vs Q E hr h => ?_)
  · obtain ⟨i, rfl, _⟩ := h
    rfl
  · obtain ⟨i, rfl, q⟩ := h
    refine ⟨_, pss_one (ps_ret (pe_and (pe_callB call_isi (by rfl) B.isinstance boot_isinstance (pa_cons (pv 0) (pa_cons (pe_bltn (v := .ty "int") (by rfl) B.int boot_int rfl) pa_nil)))
      (pe_one (pe_not (pe_callB call_isi (by rfl) B.isinstance boot_isinstance (pa_cons (pv 0) (pa_cons (pe_bltn (v := .ty "bool") (by rfl) B.bool (by decide +kernel) rfl) pa_nil))))))), ?_⟩
    refine ⟨_, rfl, .int i, .ty "int", _, _, true, rfl, .ty "int", .base (.int i), kit_ty (by decide +kernel), true, rfl, iteT ?_⟩
    exact ⟨_, rfl, .int i, .ty "bool", _, _, false, rfl, .ty "bool", .base (.int i), kit_ty (by decide +kernel), false, rfl, q⟩
/-! ### is_between -/
theorem scBet : FnScope ["thing", "low", "high"] ["thing", "low", "high"] (defScope (topS 8)) := ⟨rfl, rfl, rfl, by decide +kernel, rfl, by decide +kernel, by decide +kernel⟩
def spBet : Sp := fun vs H Q _ => ∃ i lo hi : Int, vs = [.int i, .int lo, .int hi] ∧ lo ≤ i ∧ i ≤ hi ∧ Q (.bl true) H
theorem ok_bet {f f1 : Addr} {fd fd1 : FuncData} (F : Fun K "is_between" "is_between" (topS 8) f fd) (D1 : Dn P w K mg base 1 "is_number" ["thing"] spNum f1 fd1) : FnOk P w K mg base CX0 2 f fd ["thing", "low", "high"] spBet := by
  refine F.ok scBet (fun vs H Q E h => ?_) (fun cdv A outer s H vs Q E hr h => ?_)
  · obtain ⟨i, lo, hi, rfl, _⟩ := h
    rfl
  · obtain ⟨i, lo, hi, rfl, h1, h2, q⟩ := h
    refine ⟨_, pss_one (ps_ret (pe_and (pe_call D1.ok hr (by rfl) D1.g D1.kp D1.b .nil pass0 (pa_cons (pv 0) pa_nil)) (pe_one (pe_chain op_le op_le (pv 1) (pv 0) (pv 2))))), ?_⟩
    refine ⟨_, rfl, i, rfl, true, rfl, iteT ?_⟩
    refine ⟨_, rfl, _, rfl, lo, i, rfl, rfl, true, ?_, ?_⟩
    · show V.bl (decide (lo ≤ i)) = V.bl true
      rw [decide_eq_true h1]
    · refine iteT ⟨_, rfl, i, hi, rfl, rfl, ?_⟩
      show Q (V.bl (decide (i ≤ hi))) H
      rw [decide_eq_true h2]
      exact q
/-! ### is_list -/
theorem scLst : FnScope ["thing"] ["thing"] (defScope (topS 9)) := ⟨rfl, rfl, rfl, by decide +kernel, rfl, by decide +kernel, by decide +kernel⟩
def spLst : Sp := fun vs H Q _ => ∃ (a : Addr) (xs : List V), vs = [.ref a] ∧ H a = some (.lst xs) ∧ ∀ H', Same H H' → Q (.bl true) H'
theorem ok_lst {f : Addr} {fd : FuncData} (F : Fun K "is_list" "is_list" (topS 9) f fd) (B : Bl mg) : FnOk P w K mg base CX0 1 f fd ["thing"] spLst := by
  refine F.ok scLst (fun vs H Q E h => ?_) (fun cdv A outer s H vs Q E hr h => ?_)
  · obtain ⟨a, xs, rfl, _⟩ := h
    rfl
  · obtain ⟨a, xs, rfl, ha, q⟩ := h
    refine ⟨_, pss_one (ps_ret (pe_callB call_isiT (by rfl) B.isinstance boot_isinstance (pa_cons (pv 0) (pa_cons (pe_tup (pa_cons (pe_bltn (v := .ty "list") (by rfl) B.list (by decide +kernel) rfl) (pa_cons (pe_bltn (v := .ty "tuple") (by rfl) B.tuple (by decide +kernel) rfl) pa_nil))) pa_nil)))), ?_⟩
    refine ⟨_, rfl, by show 2 ≤ sizeLine; decide, fun t ht => ?_⟩
    refine ⟨.ref a, t, [.ty "list", .ty "tuple"], .type "list", [.type "list", .type "tuple"], true, rfl, upd_same, .cons (.ty _) (.cons (.ty _) .nil), .base (.lst (xs := xs) (same_new ht _ _ ha)), kitAny_cons (b := true) (kit_ty (by decide +kernel)) (fun z => (nomatch z)) (fun _ => rfl), q _ (same_new ht)⟩
/-! ### need_prime -/
def primes : List Int := [2, 3, 5, 7, 11, 13, 17, 19, 23, 29, 31, 37, 41, 43, 47, 53, 59, 61, 67, 71, 73, 79, 83, 89, 97]
theorem scPri : FnScope ["prime"] ["prime"] (defScope (topS 10)) := ⟨rfl, rfl, rfl, by decide +kernel, rfl, by decide +kernel, by decide +kernel⟩
def spPri : Sp := fun vs H Q _ => ∃ p : Int, vs = [.int p] ∧ p ∈ primes ∧ Q .non H
theorem ok_pri {f f1 aP : Addr} {fd fd1 : FuncData} (F : Fun K "need_prime" "need_prime" (topS 10) f fd) (D1 : Dn P w K mg base 1 "is_number" ["thing"] spNum f1 fd1) (gP : mg "PRIMES" = some (.ref aP)) (hP : ∀ H, SqT K H aP (primes.map V.int)) :
    FnOk P w K mg base CX0 2 f fd ["prime"] spPri := by
  refine F.ok scPri (fun vs H Q E h => ?_) (fun cdv A outer s H vs Q E hr h => ?_)
  · obtain ⟨p, rfl, _⟩ := h
    rfl
  · obtain ⟨p, rfl, hp, q⟩ := h
    refine ⟨_, pss_one (ps_if (PW.pt (pw_or (pt_not (pt_val (pe_call D1.ok hr (by rfl) D1.g D1.kp D1.b .nil pass0 (pa_cons (pv 0) pa_nil)))) (pw_or1 (pt_cmpR op_notIn_seq (pv 0) (pe_glob (v := .ref aP) (by rfl) gP rfl) (by rfl)))))
      (pss_one ps_never) pss_nil), ?_⟩
    refine ⟨_, rfl, p, rfl, true, rfl, iteF ?_⟩
    have hin : inV (.int p) (primes.map V.int) = true := by
      revert p
      decide +kernel
    refine ⟨.int p, rfl, aP, primes.map V.int, rfl, .inr (hP H), rfl, ?_, _, rfl, ?_⟩
    · decide
    · exact iteFe (by rw [hin]; rfl) q
/-! ### need_bend -/
theorem scBend : FnScope ["prime", "q"] ["prime", "q"] (defScope (topS 12)) := ⟨rfl, rfl, rfl, by decide +kernel, rfl, by decide +kernel, by decide +kernel⟩
def spBend : Sp := fun vs H Q _ => ∃ p q : Int, vs = [.int p, .int q] ∧ p ∈ primes ∧ 0 < q ∧ q < p ∧ Q (.int q) H
theorem primes_pos {p : Int} (h : p ∈ primes) : 1 < p ∧ p < 100 := by
  revert p
  decide
theorem ok_bend {f f1 f2 : Addr} {fd fd1 fd2 : FuncData} (F : Fun K "need_bend" "need_bend" (topS 12) f fd) (D1 : Dn P w K mg base 1 "is_number" ["thing"] spNum f1 fd1) (D2 : Dn P w K mg base 2 "need_prime" ["prime"] spPri f2 fd2) :
    FnOk P w K mg base CX0 3 f fd ["prime", "q"] spBend := by
  refine F.ok scBend (fun vs H Q E h => ?_) (fun cdv A outer s H vs Q E hr h => ?_)
  · obtain ⟨p, q, rfl, _⟩ := h
    rfl
  · obtain ⟨p, q, rfl, hp, h1, h2, k⟩ := h
    have hp1 := primes_pos hp
    have em : q % p = q := Int.emod_eq_of_lt (Int.le_of_lt h1) h2
    refine ⟨_, pss_cons (ps_expr (pe_call D2.ok hr (by rfl) D2.g D2.kp D2.b .nil pass0 (pa_cons (pv 0) pa_nil)))
      (pss_cons (ps_if (PW.pt (pw_or (pt_not (pt_val (pe_call D1.ok (hr.mono (by decide)) (by rfl) D1.g D1.kp D1.b .nil pass0 (pa_cons (pv 1) pa_nil)))) (pw_or1 (pt_cmpR op_eq (pe_op op_mod (pv 1) (pv 0)) pe_int (nomark _)))))
        (pss_one ps_never) pss_nil)
      (pss_one (ps_ret (pe_op op_mod (pv 1) (pv 0))))), ?_⟩
    refine ⟨_, rfl, p, rfl, hp, _, rfl, q, rfl, true, rfl, iteF ?_⟩
    refine ⟨_, rfl, _, rfl, q, p, rfl, rfl, (by omega), rfl, _, rfl, ?_⟩
    have no : decide (V.int (q % p) = V.int 0) = false := decide_eq_false fun z => by
      injection z with z
      omega
    refine iteFe no ⟨_, rfl, _, rfl, q, p, rfl, rfl, (by omega), ?_⟩
    show Q (V.int (q % p)) H
    rw [em]
    exact k
end
end K9

set_option Elab.async false
set_option linter.all false
set_option maxRecDepth 100000
set_option maxHeartbeats 1000000
/-! is_word, need_sum, plain_sum -/
namespace K9
open PySem PySem.Spec PyProof.Rows L2
section
variable {P : Program} {w : World} {K : PySem.W.Frag} {mg : Str → Option Value} {base : Heap}
theorem rep_snoc {α : Type} (f : Bool → α) (n : Nat) : (List.replicate n true).map f ++ [f true] = (List.replicate (n + 1) true).map f := by
  rw [List.map_replicate, List.map_replicate, List.replicate_succ']
theorem all_rep (n : Nat) : (List.replicate n true).all id = true := by
  rw [List.all_eq_true]
  intro x hx
  exact List.eq_of_mem_replicate hx
theorem int_at {ns : List Int} {i : Nat} {v : V} (h : (ns.map V.int)[i]? = some v) : ∃ m, v = V.int m ∧ ns[i]? = some m := by
  rw [List.getElem?_map] at h
  cases e : ns[i]? with
  | none => rw [e] at h; cases h
  | some m =>
    rw [e] at h
    exact ⟨m, (Option.some.inj h).symm, rfl⟩
theorem yes_in {σ : L2.St} {H : Hp} {F G : Hp → Prop} (h : F H) : tYes σ H (fun b H3 => if b = true then F H3 else G H3) := by
  show if true = true then F H else G H
  rw [if_pos rfl]
  exact h
def rLen (K : PySem.W.Frag) : List V → Hp → VK → Prop := fun xs H Q => ∃ (p : Addr) (ys : List V), xs = [V.ref p] ∧ (SqL K H p ys ∨ SqT K H p ys) ∧ Q (V.int (ys.length : Nat)) H
theorem cr_len {X : Cx} {K : PySem.W.Frag} (h : X.K = K) : CallR X (.builtin "len") (rLen K) := by
  subst h
  exact call_len_seq
/-! ### is_word -/
theorem scWord : FnScope ["thing", "item"] ["thing"] (defScope (topS 16)) := ⟨rfl, rfl, rfl, by decide +kernel, rfl, by decide +kernel, by decide +kernel⟩
def spWord : Sp := fun vs H Q _ => ∃ (b : Addr) (w : Wd) (n : Nat), vs = [.ref b] ∧ WrdAt H b w ∧ Wrd n w ∧ n ≤ 7 ∧ ∀ H', Same H H' → Q (.bl true) H'
theorem ok_word {f f1 : Addr} {fd fd1 : FuncData} {t1 t2 : Tok} (F : Fun K "is_word" "is_word" (topS 16) f fd) (B : Bl mg) (D1 : Dn P w K mg base 2 "is_between" ["thing", "low", "high"] spBet f1 fd1)
    (g1 : mg "MOST_LETTERS" = some (.int 7 t1)) (g2 : mg "MOST_LETTER" = some (.int 16 t2)) : FnOk P w K mg base CX0 3 f fd ["thing"] spWord := by
  refine F.ok scWord (fun vs H Q E h => ?_) (fun cdv A outer s H vs Q E hr h => ?_)
  · obtain ⟨b, w, n, rfl, _⟩ := h
    rfl
  · obtain ⟨b, x, n, rfl, hb, hx, hn, q⟩ := h
    refine ⟨_, pss_cons (ps_if (PW.pt (pw_or (pt_not (pt_val (pe_callB call_isi (by rfl) B.isinstance boot_isinstance (pa_cons (pv 0) (pa_cons (pe_bltn (v := .ty "tuple") (by rfl) B.tuple (by decide +kernel) rfl) pa_nil)))))
        (pw_or1 (pt_cmpR op_gt (pe_callB call_len_seq (by rfl) B.len PySem.boot_len (pa_cons (pv 0) pa_nil)) (pe_glob (v := .int 7) (by rfl) g1 ⟨_, rfl⟩) (nomark _))))) (pss_one (ps_ret pe_bl)) pss_nil)
      (pss_one (ps_ret (pe_callB (cr_all rfl) (by rfl) B.all (by decide +kernel) (pa_cons (pe_lc (own := [("item", 1)]) (g := gName 1) (tt := tYes) rfl scWord.nd (pi_tup (pv 0)) (blkOk_by (N := ["thing", "item"]) (sc := defScope (topS 16)) (by decide +kernel))
        (fun _ _ _ _ _ => pg_name (i := 1) scWord.nd rfl (Or.inl rfl)) (fun _ _ _ _ _ => pts_nil)
        (fun _ _ _ _ _ => pe_call D1.ok hr (by rfl) D1.g D1.kp D1.b .nil pass0 (pa_cons (pv 1) (pa_cons pe_int (pa_cons (pe_glob (v := .int 16) (by rfl) g2 ⟨_, rfl⟩) pa_nil))))) pa_nil)))), ?_⟩
    have hT : SqT K H b (x.map V.int) := .inl (.inl hb)
    refine ⟨_, rfl, .ref b, .ty "tuple", _, _, true, rfl, .ty "tuple", .base (.tup hb), kit_ty (by decide +kernel), true, rfl, iteF ?_⟩
    refine ⟨_, rfl, b, _, rfl, .inr hT, _, 7, rfl, rfl, _, rfl, ?_⟩
    refine iteFe (decide_eq_false ?_) ?_
    · have := hx.1
      rw [List.length_map]
      omega
    · refine ⟨_, rfl, b, rfl, ⟨_, hT⟩, fun D hD => ?_⟩
      refine lc_it (walk_tup (K := K) (a := b) (xs := x.map V.int)) (fun i H' => Same H H' ∧ H' D = some (.lst ((List.replicate i true).map V.bl))) ⟨same_new hD, upd_same⟩ (fun i H' _ h => .inl (.inl (h.1 _ _ hb))) ?_ ?_
      · rintro i y H1 H2 hi ⟨h1, h2⟩ ⟨rfl, hy⟩
        obtain ⟨m, rfl, hm⟩ := int_at hy
        have bd := hx.2 m (List.mem_of_getElem? hm)
        have hi7 : i ≤ 1000 := by
          rw [List.length_map, hx.1] at hi
          omega
        refine ⟨rfl, yes_in ?_⟩
        refine ⟨_, rfl, m, 1, 16, rfl, bd.1, bd.2, _, h2, ?_, ?_, ?_⟩
        · rw [List.length_map, List.length_replicate]
          exact small1000 hi7
        · exact fun c o e => by
            rw [upd_ne (ne_of_none e hD)]
            exact h1 c o e
        · rw [upd_same, rep_snoc]
      · rintro H1 ⟨h1, h2⟩
        refine ⟨D, List.replicate (x.map V.int).length true, rfl, .inl (.inl h2), ?_⟩
        rw [all_rep]
        exact q H1 h1
/-! ### need_sum -/
theorem enc_at {d : Sm} {i : Nat} {k : List L2.Key} {v : V} (h : (enc d)[i]? = some (k, v)) : ∃ kv, d[i]? = some kv ∧ k = ek kv.1 ∧ v = V.int kv.2 := by
  unfold enc at h
  rw [List.getElem?_map] at h
  cases e : d[i]? with
  | none => rw [e] at h; cases h
  | some kv =>
    rw [e] at h
    have h' : (ek kv.1, V.int kv.2) = (k, v) := Option.some.inj h
    injection h' with h1 h2
    exact ⟨kv, rfl, h1.symm, h2.symm⟩
theorem wrd_key {H : Hp} {b : Addr} {x : Wd} (h : H b = some (.tup ((ek x).map kV))) : WrdAt H b x := by
  rw [ek_kV] at h
  exact h
theorem same_lock {H : Hp} {a : Addr} {u : HO} : ∀ c o, H c = some o → c ≠ a → (upd H a u) c = some o := fun c o e hc => by
  rw [upd_ne hc]
  exact e
/-- what holds while the sum at a is walked under a lock -/
def LkS (H H' : Hp) (a : Addr) (od : Obj) (d : Sm) : Prop := H' a = some (.frz od (.dT (enc d))) ∧ ∀ c o, H c = some o → c ≠ a → H' c = some o
theorem LkS.upd {H H' : Hp} {a p : Addr} {od : Obj} {d : Sm} {o : HO} (h : LkS H H' a od d) (hp : H p = none) (ne : p ≠ a) : LkS H (L2.upd H' p o) a od d :=
  ⟨by rw [upd_ne (Ne.symm ne)]; exact h.1, fun c u e hc => by rw [upd_ne (ne_of_none e hp)]; exact h.2 c u e hc⟩
theorem LkS.same {H H' H2 : Hp} {a : Addr} {od : Obj} {d : Sm} (h : LkS H H' a od d) (s : Same H' H2) : LkS H H2 a od d := ⟨s _ _ h.1, fun c u e hc => s _ _ (h.2 c u e hc)⟩
theorem LkS.free {H H' : Hp} {a p : Addr} {od : Obj} {d : Sm} (h : LkS H H' a od d) (hp : H' p = none) : H p = none ∧ p ≠ a := by
  have ne : p ≠ a := fun z => by rw [z, h.1] at hp; cases hp
  refine ⟨?_, ne⟩
  cases e : H p with
  | none => rfl
  | some o => rw [h.2 p o e ne] at hp; cases hp
theorem LkS.off {H H' : Hp} {a : Addr} {od : Obj} {d : Sm} (h : LkS H H' a od d) (ha : SumAt H a d) : Same H (L2.upd H' a (.dT (enc d))) := fun c o e => by
  by_cases z : c = a
  · rw [z, upd_same, ← e, z, ha]
  · rw [upd_ne z]
    exact h.2 c o e z
theorem LkS.rd {H H' : Hp} {a : Addr} {od : Obj} {d : Sm} (h : LkS H H' a od d) : Rd H' a (.dT (enc d)) := .inr ⟨od, h.1⟩
theorem scNsum : FnScope ["thing", "word"] ["thing"] (defScope (topS 17)) := ⟨rfl, rfl, rfl, by decide +kernel, rfl, by decide +kernel, by decide +kernel⟩
def spNsum : Sp := fun vs H Q _ => ∃ (a : Addr) (d : Sm) (n : Nat), vs = [.ref a] ∧ SumAt H a d ∧ K9.Sum n d ∧ n ≤ 7 ∧ d.length < 64 ∧ ∀ H', Same H H' → Q .non H'
theorem ok_nsum {f f1 f2 : Addr} {fd fd1 fd2 : FuncData} (F : Fun K "need_sum" "need_sum" (topS 17) f fd) (B : Bl mg) (D1 : Dn P w K mg base 1 "is_number" ["thing"] spNum f1 fd1) (D2 : Dn P w K mg base 3 "is_word" ["thing"] spWord f2 fd2) :
    FnOk P w K mg base CX0 4 f fd ["thing"] spNsum := by
  refine F.ok scNsum (fun vs H Q E h => ?_) (fun cdv A outer s H vs Q E hr h => ?_)
  · obtain ⟨a, d, n, rfl, _⟩ := h
    rfl
  · obtain ⟨a, d, n, rfl, ha, hs, hn, h64, q⟩ := h
    have hu := hu_of hr
    refine ⟨_, pss_cons (ps_if (PW.pt (pw_or (pt_not (pt_val (pe_callB call_isi (by rfl) B.isinstance boot_isinstance (pa_cons (pv 0) (pa_cons (pe_bltn (v := .ty "dict") (by rfl) B.dict (by decide +kernel) rfl) pa_nil)))))
        (pw_or1 (pt_not (pt_val (pe_callB (cr_all rfl) (by rfl) B.all (by decide +kernel) (pa_cons (pe_lock (pe_lc (own := [("word", 1)]) (g := gName 1) (tt := tYes) rfl scNsum.nd (pi_keys (pv 0)) (blkOk_by (N := ["thing", "word"]) (sc := defScope (topS 17)) (by decide +kernel))
          (fun _ _ _ _ _ => pg_name (i := 1) scNsum.nd rfl (Or.inl rfl)) (fun _ _ _ _ _ => pts_nil)
          (fun _ _ _ _ _ => pe_and (pe_call D2.ok hr (by rfl) D2.g D2.kp D2.b .nil pass0 (pa_cons (pv 1) pa_nil)) (pe_one (pe_call D1.ok (hr.mono (by decide)) (by rfl) D1.g D1.kp D1.b .nil pass0 (pa_cons (pe_dget hu (pv 0) (pv 1) (fun _ _ => rfl)) pa_nil)))))) pa_nil)))))))
        (pss_one ps_never) pss_nil)
      (pss_one (ps_if (pt_cmpR op_gt (pe_lenSetE rfl (by rfl) B.len (by rfl) B.set (pe_lock (pe_lc (own := [("word", 1)]) (g := gName 1) (tt := tYes) rfl scNsum.nd (pi_keys (pv 0)) (blkOk_by (N := ["thing", "word"]) (sc := defScope (topS 17)) (by decide +kernel))
          (fun _ _ _ _ _ => pg_name (i := 1) scNsum.nd rfl (Or.inl rfl)) (fun _ _ _ _ _ => pts_nil)
          (fun _ _ _ _ _ => pe_callB (cr_len (K := K) rfl) (by rfl) B.len PySem.boot_len (pa_cons (pv 1) pa_nil))))) pe_int (nomark _))
        (pss_one ps_never) pss_nil)), ?_⟩
    refine ⟨_, rfl, .ref a, .ty "dict", _, _, true, rfl, .ty "dict", .base (.dT ha), kit_ty (by decide +kernel), true, rfl, iteF ?_⟩
    have key : ∀ {H' : Hp} {od : Obj} {i : Nat} {k : List L2.Key} {v : V} {b : Addr}, LkS H H' a od d → (enc d)[i]? = some (k, v) → H' b = some (.tup (k.map kV)) → ∃ kv ∈ d, WrdAt H' b kv.1 ∧ v = V.int kv.2 ∧ DGet H' a (.ref b) (some (.int kv.2)) := fun {H' od i k v b} lk hk hb => by
      obtain ⟨kv, e1, e2, e3⟩ := enc_at hk
      rw [e2] at hb
      have hm := List.mem_of_getElem? e1
      have z := dget_rd lk.rd (wrd_key hb)
      rw [if_pos (hasK_iff.mpr (List.mem_map.mpr ⟨kv, hm, rfl⟩)), look_val hs.nd hm] at z
      exact ⟨kv, hm, wrd_key hb, e3, z⟩
    refine ⟨a, .dT (enc d), ha, True.intro, fun od => ⟨.ref a, rfl, a, od, rfl, .inr ⟨enc d, upd_same, fun D hD => ?_⟩⟩⟩
    have lk0 : LkS H (upd H a (.frz od (.dT (enc d)))) a od d := ⟨upd_same, same_lock⟩
    obtain ⟨hD0, neD⟩ := lk0.free hD
    refine lc_it (walk_keysT (d := a) (o := od) (kvs := enc d)) (fun i H' => LkS H H' a od d ∧ H' D = some (.lst ((List.replicate i true).map V.bl))) ⟨lk0.upd hD0 neD, upd_same⟩ (fun i H' _ h => h.1.1) ?_ ?_
    · rintro i y H1 H2 hi ⟨h1, h2⟩ ⟨rfl, k, v, b, hk, rfl, hb⟩
      obtain ⟨kv, hm, hw, rfl, hg⟩ := key h1 hk hb
      rw [enc_length] at hi
      refine ⟨rfl, yes_in ?_⟩
      refine ⟨_, rfl, b, kv.1, n, rfl, hw, hs.wd kv hm, hn, fun H3 s3 => ⟨true, rfl, ?_⟩⟩
      refine iteTe rfl ?_
      have h3 := h1.same s3
      obtain ⟨kv', hm', _, e', hg'⟩ := key h3 hk (s3 _ _ hb)
      refine ⟨.ref a, rfl, .ref b, rfl, a, _, rfl, hg', kv'.2, rfl, _, s3 _ _ h2, ?_, ?_, ?_⟩
      · rw [List.length_map, List.length_replicate]
        exact small1000 (by omega)
      · exact h3.upd hD0 neD
      · rw [upd_same, rep_snoc]
    · rintro H1 ⟨h1, h2⟩
      refine ⟨h1.1, D, List.replicate (enc d).length true, rfl, .inl (.inl ?_), ?_⟩
      · rw [upd_ne neD]
        exact h2
      · refine ⟨_, rfl, iteFe (by rw [all_rep]; rfl) ?_⟩
        have s1 : Same H (upd H1 a (.dT (enc d))) := h1.off ha
        have a1 : SumAt (upd H1 a (.dT (enc d))) a d := upd_same
        generalize upd H1 a (.dT (enc d)) = G at s1 a1
        refine ⟨a, .dT (enc d), a1, True.intro, fun od2 => ⟨.ref a, rfl, a, od2, rfl, .inr ⟨enc d, upd_same, fun D2 hD2 => ?_⟩⟩⟩
        have lk1 : LkS G (upd G a (.frz od2 (.dT (enc d)))) a od2 d := ⟨upd_same, same_lock⟩
        obtain ⟨hD3, neD2⟩ := lk1.free hD2
        refine lc_it (walk_keysT (d := a) (o := od2) (kvs := enc d)) (fun i H' => LkS G H' a od2 d ∧ H' D2 = some (.lst ((List.replicate i (n : Int)).map V.int))) ⟨lk1.upd hD3 neD2, upd_same⟩ (fun i H' _ h => h.1.1) ?_ ?_
        · rintro i y G1 G2 hi ⟨h1, h2⟩ ⟨rfl, k, v, b, hk, rfl, hb⟩
          obtain ⟨kv, e1, e2, e3⟩ := enc_at hk
          rw [e2] at hb
          have hw := wrd_key hb
          have hl := (hs.wd kv (List.mem_of_getElem? e1)).1
          rw [enc_length] at hi
          refine ⟨rfl, yes_in ?_⟩
          refine ⟨.ref b, rfl, b, _, rfl, .inr (.inl (.inl hw)), _, h2, ?_, ?_, ?_⟩
          · rw [List.length_map, List.length_replicate]
            exact small1000 (by omega)
          · exact h1.upd hD3 neD2
          · rw [upd_same, List.length_map, hl, List.map_replicate, List.map_replicate, List.replicate_succ']
        · rintro G1 ⟨h1, h2⟩
          refine ⟨h1.1, D2, (n : Int), (enc d).length, rfl, .inl (.inl ?_), by rw [enc_length]; exact h64, _, 1, rfl, rfl, _, rfl, iteFe (decide_eq_false ?_) ?_⟩
          · rw [upd_ne neD2]
            exact h2
          · split <;> decide
          · exact q _ (s1.trans (h1.off a1))
end
end K9

set_option Elab.async false
set_option linter.all false
set_option maxRecDepth 100000
set_option maxHeartbeats 1000000
/-! plain_sum and the law's own trim -/
namespace K9
open PySem PySem.Spec PyProof.Rows L2
/-- the code by which words are sorted -/
abbrev cd : Wd → Int := TS.code 17
theorem wrd_bd {n : Nat} {x : Wd} (h : Wrd n x) : TS.Bd 17 x := fun m hm => by
  have := h.2 m hm
  omega
theorem code_one : ∀ {v w : Wd}, v.length = w.length → TS.Bd 17 v → TS.Bd 17 w → cd v = cd w → v = w
  | [], [], _, _, _, _ => rfl
  | [], _ :: _, h, _, _, _ => by simp at h
  | _ :: _, [], h, _, _, _ => by simp at h
  | x :: v, y :: w, h, hv, hw, e => by
    have hl : v.length = w.length := by simpa using h
    have exy : x = y := by
      rcases Int.lt_trichotomy x y with c | c | c
      · have := TS.code_lt (B := 17) hl hv.tail hw.tail c
        exact absurd this (by rw [show TS.code 17 (x :: v) = TS.code 17 (y :: w) from e]; exact Int.lt_irrefl _)
      · exact c
      · have := TS.code_lt (B := 17) hl.symm hw.tail hv.tail c
        exact absurd this (by rw [show TS.code 17 (x :: v) = TS.code 17 (y :: w) from e]; exact Int.lt_irrefl _)
    subst exy
    have e' : x * 17 ^ v.length + TS.code 17 v = x * 17 ^ w.length + TS.code 17 w := e
    rw [hl] at e'
    rw [code_one hl hv.tail hw.tail (show TS.code 17 v = TS.code 17 w by omega)]
theorem cd_inj {n : Nat} (v w : Wd) (hv : Wrd n v) (hw : Wrd n w) (e : cd v = cd w) : v = w := code_one (hv.1.trans hw.1.symm) (wrd_bd hv) (wrd_bd hw) e
theorem same_rd {H H' : Hp} {a : Addr} {u : HO} (s : Same H H') (h : Rd H a u) : Rd H' a u := by
  rcases h with h | ⟨o, h⟩
  · exact .inl (s _ _ h)
  · exact .inr ⟨o, s _ _ h⟩
theorem same_tup {K : PySem.W.Frag} {H H' : Hp} {a : Addr} {xs : List V} (s : Same H H') (h : SqT K H a xs) : SqT K H' a xs := by
  rcases h with h | h
  · exact .inl (same_rd s h)
  · exact .inr h
/-- tuples stay -/
def Tups (H H' : Hp) : Prop := ∀ b xs, H b = some (.tup xs) → H' b = some (.tup xs)
theorem tups_same {H H' : Hp} (s : Same H H') : Tups H H' := fun b xs e => s _ _ e
theorem Tups.trans {H H' H2 : Hp} (a : Tups H H') (b : Tups H' H2) : Tups H H2 := fun c xs e => b _ _ (a _ _ e)
theorem tups_lst {H : Hp} {D : Addr} {xs : List V} {o : HO} (h : H D = some (.lst xs)) : Tups H (upd H D o) := fun b ys e => by
  rw [upd_ne (fun z => by rw [z, h] at e; cases e)]
  exact e
theorem PairW.tups {H H' : Hp} {p : Addr} {kv : Wd × Int} (s : Tups H H') (h : PairW H p kv) : PairW H' p kv := by
  obtain ⟨b, h1, h2⟩ := h
  exact ⟨b, s _ _ h1, s _ _ h2⟩
theorem pairs_tups {H H' : Hp} (s : Tups H H') {ps : List Addr} {d : Sm} (h : Paired (PairW H) ps d) : Paired (PairW H') ps d := Paired.mapP h fun _ _ z => z.tups s
theorem pairs_snoc {H : Hp} {p : Addr} {kv : Wd × Int} (h : PairW H p kv) : ∀ {ps : List Addr} {d : Sm}, Paired (PairW H) ps d → Paired (PairW H) (ps ++ [p]) (d ++ [kv])
  | [], [], .nil => .cons h .nil
  | _ :: _, _ :: _, .cons x t => .cons x (pairs_snoc h t)
theorem tidy_snoc (p : Int) (d : Sm) (ys : List Wd) (y : Wd) : tidy p d (ys ++ [y]) = if look d y % p = 0 then tidy p d ys else tidy p d ys ++ [(y, look d y % p)] := by
  unfold tidy
  rw [List.filter_append]
  by_cases e : look d y % p = 0
  · rw [if_pos e, List.filter_cons_of_neg (by simp [e])]
    simp
  · rw [if_neg e, List.filter_cons_of_pos (by simp [e])]
    simp
theorem dget_in {H : Hp} {a b : Addr} {d : Sm} {x : Wd} (h : Rd H a (.dT (enc d))) (hb : WrdAt H b x) (m : x ∈ keys d) : DGet H a (.ref b) (some (.int (look d x))) := by
  have z := dget_rd h hb
  rwa [if_pos (hasK_iff.mpr m)] at z
/-- what plain_sum is worth -/
def spPlain : Sp := fun vs H Q _ => ∃ (p : Int) (a : Addr) (d : Sm) (n : Nat), vs = [.int p, .ref a] ∧ 0 < p ∧ Rd H a (.dT (enc d)) ∧ K9.Sum n d ∧ 1 ≤ n ∧ d.length < 64 ∧
  ∀ (H' : Hp) (r : Addr) (e : Sm), Same H H' → H r = none → SumAt H' r e → Canon cd p n e → Alike p d e → e.length ≤ d.length → Q (.ref r) H'
section
variable {P : Program} {w : World} {K : PySem.W.Frag} {mg : Str → Option Value} {base : Heap}
/-! ### plain_sum -/
theorem scPlain : FnScope ["prime", "some", "word"] ["prime", "some"] (defScope (topS 18)) := ⟨rfl, rfl, rfl, by decide +kernel, rfl, by decide +kernel, by decide +kernel⟩
theorem ok_plain {f : Addr} {fd : FuncData} (F : Fun K "plain_sum" "plain_sum" (topS 18) f fd) (B : Bl mg) : FnOk P w K mg base CX0 1 f fd ["prime", "some"] spPlain := by
  refine F.ok scPlain (fun vs H Q E h => ?_) (fun cdv A outer s H vs Q E hr h => ?_)
  · obtain ⟨p, a, d, n, rfl, _⟩ := h
    rfl
  · obtain ⟨p, a, d, n, rfl, hp, ha, hs, hn, h64, q⟩ := h
    have hu := hu_of hr
    have hu6 := hr.units
    refine ⟨_, pss_one (ps_ret (pe_callTy (cr_dictD rfl hu6) (by rfl) B.dict (by decide +kernel) (pa_cons (pe_lc (own := [("word", 2)]) (g := gName 2) rfl scPlain.nd
      (pi_list (pe_callB (cr_sortD (n := n) (B := 17) rfl hn) (by rfl) B.sorted (by decide +kernel) (pa_cons (pv 1) pa_nil))) (blkOk_by (N := ["prime", "some", "word"]) (sc := defScope (topS 18)) (by decide +kernel))
      (fun _ _ _ _ _ => pg_name (i := 2) scPlain.nd rfl (Or.inl rfl)) (fun _ _ _ _ _ => pts_one (pt_cmpR op_ne (pe_op op_mod (pe_dget hu (pv 1) (pv 2) (fun _ _ => rfl)) (pv 0)) pe_int (nomark _)))
      (fun _ _ _ _ _ => pe_tup (pa_cons (pv 2) (pa_cons (pe_op op_mod (pe_dget hu (pv 1) (pv 2) (fun _ _ => rfl)) (pv 0)) pa_nil)))) pa_nil))), ?_⟩
    refine ⟨_, rfl, a, d, rfl, ha, h64, (fun kv hm => ⟨(hs.wd kv hm).1, wrd_bd (hs.wd kv hm)⟩), fun L l hL hpm hup hl => ?_⟩
    have sl : Same H (upd H l (.lst (L.map fun x => V.ref x.1))) := same_new hl
    refine ⟨l, rfl, ⟨_, .inl (.inl upd_same)⟩, fun D hD => ?_⟩
    have hD0 : H D = none := sl.free hD
    have neD : D ≠ l := fun z => by rw [z, upd_same] at hD; cases hD
    have mem : ∀ x ∈ L, x.2 ∈ keys d := fun x hx => hpm.mem_iff.mp (List.mem_map.mpr ⟨x, hx, rfl⟩)
    refine lc_it (walk_list (K := K) (a := l) (xs := L.map fun x => V.ref x.1)) (fun i H' => Same H H' ∧ H' l = some (.lst (L.map fun x => V.ref x.1)) ∧ ∃ ps : List Addr, H' D = some (.lst (ps.map V.ref)) ∧ ps.length ≤ i ∧ Paired (PairW H') ps (tidy p d ((L.take i).map (·.2))))
      ⟨sl.trans (same_new hD), by rw [upd_ne (Ne.symm neD)]; exact upd_same, [], upd_same, Nat.le_refl _, .nil⟩ (fun i H' _ h => .inl (.inl h.2.1)) ?_ ?_
    · rintro i y H1 H2 hi ⟨h1, h2, ps, h3, h4, h5⟩ ⟨rfl, hy⟩
      obtain ⟨x, ex, ey⟩ : ∃ x, L[i]? = some x ∧ y = V.ref x.1 := by
        rw [List.getElem?_map] at hy
        cases e : L[i]? with
        | none => rw [e] at hy; cases hy
        | some x => rw [e] at hy; exact ⟨x, rfl, (Option.some.inj hy).symm⟩
      subst ey
      have hx := List.mem_of_getElem? ex
      have hw : WrdAt H2 x.1 x.2 := h1 _ _ (hL x hx)
      have hg := dget_in (same_rd h1 ha) hw (mem x hx)
      have hi6 : i < 64 := by
        rw [List.length_map] at hi
        have z := hpm.length_eq
        rw [List.length_map] at z
        unfold keys at z
        rw [List.length_map] at z
        omega
      have et : (L.take (i + 1)).map (·.2) = (L.take i).map (·.2) ++ [x.2] := by
        rw [List.take_add_one, ex, List.map_append]
        rfl
      refine ⟨rfl, ?_⟩
      refine ⟨_, rfl, _, rfl, a, _, rfl, hg, _, rfl, look d x.2, p, rfl, rfl, hp, rfl, _, rfl, ?_⟩
      by_cases e0 : look d x.2 % p = 0
      · refine iteFe (by rw [decide_eq_true (show V.int (look d x.2 % p) = V.int 0 by rw [e0])]; rfl) ?_
        refine ⟨h1, h2, ps, h3, by omega, ?_⟩
        rw [et, tidy_snoc, if_pos e0]
        exact h5
      · refine iteTe (by rw [decide_eq_false (show ¬ V.int (look d x.2 % p) = V.int 0 from fun z => e0 (by injection z))]; rfl) ?_
        refine ⟨_, rfl, _, rfl, _, rfl, a, _, rfl, hg, _, rfl, look d x.2, p, rfl, rfl, hp, by show 2 ≤ sizeLine; decide, fun T hT => ?_⟩
        have neT : D ≠ T := ne_of_none h3 hT
        have nel : l ≠ T := ne_of_none h2 hT
        refine ⟨ps.map V.ref, by rw [upd_ne neT]; exact h3, by rw [List.length_map]; exact small1000 (by omega), fun c o e => ?_, ?_, ps ++ [T], ?_, ?_, ?_⟩
        · have nc : c ≠ D := ne_of_none e hD0
          rw [upd_ne nc]
          exact same_new hT _ _ (h1 _ _ e)
        · rw [upd_ne (Ne.symm neD), upd_ne nel]
          exact h2
        · rw [upd_same, List.map_append]
          rfl
        · rw [List.length_append]
          show ps.length + 1 ≤ i + 1
          omega
        · rw [et, tidy_snoc, if_neg e0]
          have h3' : upd H2 T (.tup [V.ref x.1, V.int (look d x.2 % p)]) D = some (.lst (ps.map V.ref)) := by
            rw [upd_ne neT]
            exact h3
          have k1 : Tups H2 (upd H2 T (.tup [V.ref x.1, V.int (look d x.2 % p)])) := tups_same (same_new hT)
          have k2 := tups_lst (o := .lst (ps.map V.ref ++ [V.ref T])) h3'
          exact pairs_snoc ⟨x.1, k2 _ _ (k1 _ _ hw), k2 _ _ upd_same⟩ (pairs_tups (k1.trans k2) h5)
    · rintro H1 ⟨h1, h2, ps, h3, h4, h5⟩
      rw [List.length_map, List.take_length] at h5
      have nd : (L.map (·.2)).Nodup := hpm.nodup_iff.mpr hs.nd
      have wl : ∀ y ∈ L.map (·.2), Wrd n y := fun y hy => by
        obtain ⟨kv, hm, e⟩ := List.mem_map.mp (hpm.mem_iff.mp hy)
        rw [← e]
        exact hs.wd kv hm
      have up : (L.map (·.2)).Pairwise fun a b => cd a < cd b := strict cd_inj wl nd (by rw [List.pairwise_map]; exact hup)
      obtain ⟨c1, c2, c3⟩ := tidy_ok hp hs hpm up
      refine ⟨D, ps, _, rfl, .inl (.inl h3), h5, c1.sum.nd, fun r hr' => ?_⟩
      have s2 : Same H1 (upd H1 r (.dT (enc (tidy p d (L.map (·.2)))))) := same_new hr'
      exact q _ r _ (h1.trans s2) (h1.free hr') upd_same c1 c2 c3
end
end K9

set_option Elab.async false
set_option linter.all false
set_option maxRecDepth 100000
set_option maxHeartbeats 1000000
/-! led_word, led_sum, led_all -/
namespace K9
open PySem PySem.Spec PyProof.Rows L2
theorem cut_take (x : Wd) (i : Nat) (h : i ≤ x.length) : cutV (x.map V.int) none (some (i : Int)) = (x.take i).map V.int := by
  unfold cutV
  rw [HT.sIx_nat, HT.sIx_none, List.length_map, Nat.min_eq_left h, List.drop_zero, Nat.sub_zero, List.map_take]
theorem cut_drop (x : Wd) (i : Nat) (h : i ≤ x.length) : cutV (x.map V.int) (some (i : Int)) none = (x.drop i).map V.int := by
  unfold cutV
  rw [HT.sIx_nat, HT.sIx_none, List.length_map, Nat.min_eq_left h, List.map_drop]
  refine List.take_of_length_le ?_
  rw [List.length_drop, List.length_map]
  exact Nat.le_refl _
theorem at0_get {x : Wd} {i : Nat} (h : i < x.length) : (x.map V.int)[i]? = some (V.int (at0 x i)) := by
  rw [List.getElem?_map, List.getElem?_eq_getElem h]
  unfold at0
  rw [List.getD_eq_getElem?_getD, List.getElem?_eq_getElem h]
  rfl
def spLedW : Sp := fun vs H Q _ => ∃ (q : Int) (b : Addr) (i : Nat) (x : Wd), vs = [.int q, .ref b, .int (i : Int)] ∧ WrdAt H b x ∧ i + 1 < x.length ∧ x.length ≤ 7 ∧
  ∀ (H' : Hp) (r : Addr) (ps : List Addr), Same H H' → H r = none → H' r = some (.lst (ps.map V.ref)) → Paired (PairW H') ps (ledWord q x i) → Q (.ref r) H'
section
variable {P : Program} {w : World} {K : PySem.W.Frag} {mg : Str → Option Value} {base : Heap}
/-! ### led_word -/
theorem scLedW : FnScope ["q", "word", "place", "x", "y", "other"] ["q", "word", "place"] (defScope (topS 19)) := ⟨rfl, rfl, rfl, by decide +kernel, rfl, by decide +kernel, by decide +kernel⟩
theorem ok_ledW {f : Addr} {fd : FuncData} (F : Fun K "led_word" "led_word" (topS 19) f fd) : FnOk P w K mg base CX0 1 f fd ["q", "word", "place"] spLedW := by
  refine F.ok scLedW (fun vs H Q E h => ?_) (fun cdv A outer s H vs Q E hr h => ?_)
  · obtain ⟨q, b, i, x, rfl, _⟩ := h
    rfl
  · obtain ⟨q, b, i, x, rfl, hb, hi, hl, k⟩ := h
    refine ⟨_, pss_cons (ps_par (i := 3) (j := 4) rfl scLedW.nd rfl rfl (by decide) rfl rfl (pa_cons (pe_ix ix_tup (pv 1) (pv 2) (fun _ _ => rfl)) (pa_cons (pe_ix ix_tup (pv 1) (pe_op op_add (pv 2) pe_int) (fun _ _ => rfl)) pa_nil)) (by rfl))
      (pss_cons (ps_set (i := 5) scLedW.nd rfl (.inl rfl) (pe_tup (StX.pa_star (pe_slice sl_tup (pv 1) po_none (po_some (pv 2))) (pa_cons (pv 4) (pa_cons (pv 3) (StX.pa_star (pe_slice sl_tup (pv 1) (po_some (pe_op op_add (pv 2) pe_int)) po_none) pa_nil))))))
      (pss_cons (ps_if (pt_cmpR op_eq (pv 3) (pv 4) (nomark _)) (pss_one (ps_ret (pe_lst (pa_cons (pe_tup (pa_cons (pv 1) (pa_cons (pv 0) pa_nil))) pa_nil)))) pss_nil)
      (pss_one (ps_ret (pe_ifExp (pt_cmpR op_lt (pv 3) (pv 4) (nomark _)) (pe_lst (pa_cons (pe_tup (pa_cons (pv 5) (pa_cons pe_int pa_nil))) pa_nil))
        (pe_lst (pa_cons (pe_tup (pa_cons (pv 5) (pa_cons (pv 0) pa_nil))) (pa_cons (pe_tup (pa_cons (pv 1) (pa_cons (pe_op op_sub (pv 0) pe_int) pa_nil))) pa_nil)))))))), ?_⟩
    have hT : SqT K H b (x.map V.int) := .inl (.inl hb)
    have h0 : i < x.length := by omega
    have e2 : (i : Int) + 2 = ((i + 2 : Nat) : Int) := by omega
    refine ⟨_, rfl, _, rfl, b, _, _, _, rfl, rfl, hT, atI_nat (at0_get h0), _, rfl, _, rfl, _, _, rfl, rfl, b, _, _, _, rfl, rfl, hT, atI_nat (j := i + 1) (at0_get hi), _, _, rfl, ?_⟩
    refine ⟨_, rfl, _, rfl, _, rfl, b, _, rfl, hT, ?_, fun t1 n1 => ?_⟩
    · rw [HT.sIx_nat, List.length_map, Nat.min_eq_left (by omega)]
      omega
    · have s1 : Same H (upd H t1 (.tup (cutV (x.map V.int) none (some (i : Int))))) := same_new n1
      have hT1 := same_tup s1 hT
      refine ⟨t1, _, rfl, .inl (.inl (.inl upd_same)), _, rfl, _, rfl, _, rfl, _, rfl, _, 2, rfl, rfl, _, rfl, b, _, rfl, hT1, ?_, fun t2 n2 => ?_⟩
      · rw [e2, HT.sIx_nat, List.length_map, Nat.min_eq_left (by omega)]
        omega
      · rw [cut_take x i (by omega)] at s1 n2 ⊢
        rw [e2, cut_drop x (i + 2) (by omega)]
        have s2 : Same H (upd (upd H t1 (.tup ((x.take i).map V.int))) t2 (.tup ((x.drop (i + 2)).map V.int))) := s1.trans (same_new n2)
        have u2 : upd (upd H t1 (.tup ((x.take i).map V.int))) t2 (.tup ((x.drop (i + 2)).map V.int)) t2 = some (.tup ((x.drop (i + 2)).map V.int)) := upd_same
        generalize upd (upd H t1 (.tup ((x.take i).map V.int))) t2 (.tup ((x.drop (i + 2)).map V.int)) = G at s2 u2 ⊢
        have eo : (x.take i).map V.int ++ V.int (at0 x (i + 1)) :: V.int (at0 x i) :: ((x.drop (i + 2)).map V.int ++ []) = (swp x i).map V.int := by
          unfold swp
          rw [List.append_nil, List.map_append]
          rfl
        refine ⟨t2, _, rfl, .inl (.inl (.inl u2)), ?_, fun t3 n3 => ?_⟩
        · show ((x.take i).map V.int ++ V.int (at0 x (i + 1)) :: V.int (at0 x i) :: ((x.drop (i + 2)).map V.int ++ [])).length ≤ sizeLine
          rw [eo, List.length_map, (at0_swp hi).2.2.2]
          exact few (by omega)
        · have n3 : G t3 = none := n3
          have s3 : Same H (upd G t3 (.tup ((swp x i).map V.int))) := s2.trans (same_new n3)
          have u3 : WrdAt (upd G t3 (.tup ((swp x i).map V.int))) t3 (swp x i) := upd_same
          refine ⟨_, rfl, _, rfl, rfl, _, rfl, ?_⟩
          rw [eo]
          generalize upd G t3 (.tup ((swp x i).map V.int)) = G3 at s3 u3 ⊢
          have fin1 : ∀ {c : Addr} {y : Wd} {m : Int} {T r : Addr}, WrdAt G3 c y → G3 T = none → upd G3 T (.tup [V.ref c, V.int m]) r = none → ledWord q x i = [(y, m)] → Q (.ref r) (upd (upd G3 T (.tup [V.ref c, V.int m])) r (.lst [V.ref T])) := fun {c y m T r} hc hT2 hr2 e => by
            have t1 := same_new (o := .tup [V.ref c, V.int m]) hT2
            have t2 := same_new (o := .lst [V.ref T]) hr2
            refine k _ r [T] ((s3.trans t1).trans t2) (s3.free (t1.free hr2)) upd_same ?_
            rw [e]
            exact .cons ⟨c, t2 _ _ (t1 _ _ hc), t2 _ _ upd_same⟩ .nil
          have hb3 : WrdAt G3 b x := s3 _ _ hb
          by_cases c1 : at0 x i = at0 x (i + 1)
          · refine iteTe (decide_eq_true (by rw [c1])) ?_
            refine ⟨_, rfl, _, rfl, by show 2 ≤ sizeLine; decide, fun T hT2 => ⟨by show 1 ≤ sizeLine; decide, fun r hr2 => ?_⟩⟩
            exact fin1 hb3 hT2 hr2 (by unfold ledWord; rw [if_pos c1])
          · refine iteFe (decide_eq_false fun z => c1 (by injection z)) ?_
            refine ⟨_, rfl, _, rfl, _, _, rfl, rfl, _, rfl, ?_⟩
            by_cases c2 : at0 x i < at0 x (i + 1)
            · refine iteTe (decide_eq_true c2) ?_
              refine ⟨_, rfl, by show 2 ≤ sizeLine; decide, fun T hT2 => ⟨by show 1 ≤ sizeLine; decide, fun r hr2 => ?_⟩⟩
              exact fin1 u3 hT2 hr2 (by unfold ledWord; rw [if_neg c1, if_pos c2])
            · refine iteFe (decide_eq_false c2) ?_
              refine ⟨_, rfl, _, rfl, by show 2 ≤ sizeLine; decide, fun T hT2 => ?_⟩
              have a1 := same_new (o := .tup [V.ref t3, V.int q]) hT2
              refine ⟨_, rfl, _, rfl, q, 1, rfl, rfl, by show 2 ≤ sizeLine; decide, fun T2 hT3 => ⟨by show 2 ≤ sizeLine; decide, fun r hr2 => ?_⟩⟩
              have a2 := same_new (o := .tup [V.ref b, V.int (q - 1)]) hT3
              have a3 := same_new (o := .lst [V.ref T, V.ref T2]) hr2
              refine k _ r [T, T2] (((s3.trans a1).trans a2).trans a3) (s3.free (a1.free (a2.free hr2))) upd_same ?_
              unfold ledWord
              rw [if_neg c1, if_neg c2]
              exact .cons ⟨t3, a3 _ _ (a2 _ _ (a1 _ _ u3)), a3 _ _ (a2 _ _ upd_same)⟩ (.cons ⟨b, a3 _ _ (a2 _ _ (a1 _ _ hb3)), a3 _ _ upd_same⟩ .nil)
end
end K9

set_option Elab.async false
set_option linter.all false
set_option maxRecDepth 100000
set_option maxHeartbeats 1000000
/-! led_sum -/
namespace K9
open PySem PySem.Spec PyProof.Rows L2
theorem paired_get {α β : Type} {R : α → β → Prop} : ∀ {xs : List α} {ys : List β} {i : Nat} {x : α}, Paired R xs ys → xs[i]? = some x → ∃ y, ys[i]? = some y ∧ R x y
  | _, _, _, _, .nil, e => by simp at e
  | _, _, 0, x, .cons h t, e => by
    have e' := Option.some.inj (show some _ = some x from e)
    subst e'
    exact ⟨_, rfl, h⟩
  | _, _, i + 1, x, .cons h t, e => by
    obtain ⟨y, e1, z⟩ := paired_get (i := i) t (show _ = some x from e)
    exact ⟨y, e1, z⟩
theorem ref_at {ps : List Addr} {i : Nat} {v : V} (h : (ps.map V.ref)[i]? = some v) : ∃ p, ps[i]? = some p ∧ v = V.ref p := by
  rw [List.getElem?_map] at h
  cases e : ps[i]? with
  | none => rw [e] at h; cases h
  | some p =>
    rw [e] at h
    exact ⟨p, rfl, (Option.some.inj h).symm⟩
theorem wrd_swp {n i : Nat} {x : Wd} (h : Wrd n x) (hi : i + 1 < n) : Wrd n (swp x i) := by
  have hl : i + 1 < x.length := by rw [h.1]; exact hi
  refine ⟨(at0_swp hl).2.2.2.trans h.1, fun y hy => h.2 y ?_⟩
  rw [split2 hl]
  unfold swp at hy
  simp only [List.mem_append, List.mem_cons] at hy ⊢
  rcases hy with a | a | a | a
  · exact .inl a
  · exact .inr (.inr (.inl a))
  · exact .inr (.inl a)
  · exact .inr (.inr (.inr a))
theorem wrd_led {n i : Nat} {q : Int} {x : Wd} (h : Wrd n x) (hi : i + 1 < n) : ∀ gm ∈ ledWord q x i, Wrd n gm.1 ∧ (gm.2 = q ∨ gm.2 = 1 ∨ gm.2 = q - 1) := by
  intro gm hm
  unfold ledWord at hm
  split at hm
  · have e := List.mem_singleton.mp hm
    rw [e]
    exact ⟨h, .inl rfl⟩
  · split at hm
    · have e := List.mem_singleton.mp hm
      rw [e]
      exact ⟨wrd_swp h hi, .inr (.inl rfl)⟩
    · rcases List.mem_cons.mp hm with e | hm
      · rw [e]
        exact ⟨wrd_swp h hi, .inl rfl⟩
      · have e := List.mem_singleton.mp hm
        rw [e]
        exact ⟨h, .inr (.inr rfl)⟩
theorem led_len (q : Int) (x : Wd) (i : Nat) : (ledWord q x i).length ≤ 2 := by
  unfold ledWord
  split
  · exact Nat.le_succ 1
  · split
    · exact Nat.le_succ 1
    · exact Nat.le_refl 2
theorem I_snoc (d : Sm) (kv : Wd × Int) (h : Wd → Int) : I (d ++ [kv]) h = I d h + kv.2 * h kv.1 := by
  rw [I_append]
  show _ + (kv.2 * h kv.1 + 0) = _
  rw [Int.add_zero]
theorem take_snoc {α : Type} {l : List α} {i : Nat} {x : α} (h : l[i]? = some x) : l.take (i + 1) = l.take i ++ [x] := by
  rw [List.take_add_one, h]
  rfl
theorem sum_addTo {n : Nat} {d : Sm} (s : K9.Sum n d) {x : Wd} (hx : Wrd n x) (c : Int) : K9.Sum n (addTo d x c) := by
  refine ⟨keys_addTo s.nd x c, fun kv hm => ?_⟩
  rcases mem_keys_addTo (List.mem_map.mpr ⟨kv, hm, rfl⟩) with h | h
  · obtain ⟨kv', m', e⟩ := List.mem_map.mp h
    rw [← e]
    exact s.wd kv' m'
  · rw [h]
    exact hx
theorem dget_look {H : Hp} {a b : Addr} {d : Sm} {x : Wd} (h : Rd H a (.dT (enc d))) (hb : WrdAt H b x) : ∃ o, DGet H a (.ref b) o ∧ o.getD (V.int 0) = V.int (look d x) := by
  refine ⟨_, dget_rd h hb, ?_⟩
  rw [← valV_enc]
  exact valV_getD x d
theorem dput_enc {H : Hp} {a b : Addr} {d : Sm} {x : Wd} {c : Int} (h : SumAt H a d) (hb : WrdAt H b x) (hl : d.length < sizeLine) : DPut H a (.ref b) (.int c) (L2.upd H a (.dT (enc (put d x c)))) := by
  rw [← putK_enc]
  exact DPut.t h hb.key (by rw [enc_length]; exact hl)
/-- what stands elsewhere stays -/
def Off (b : Addr) (H H' : Hp) : Prop := ∀ c o, H c = some o → c ≠ b → H' c = some o
theorem off_upd (H : Hp) (b : Addr) (o : HO) : Off b H (L2.upd H b o) := fun c u e hc => by
  rw [upd_ne hc]
  exact e
theorem Off.trans {b : Addr} {H H1 H2 : Hp} (x : Off b H H1) (y : Off b H1 H2) : Off b H H2 := fun c o e hc => y c o (x c o e hc) hc
theorem Off.tups {b : Addr} {H H' : Hp} {u : HO} (x : Off b H H') (hb : H b = some u) (nt : ∀ xs, u ≠ .tup xs) : Tups H H' := fun c xs e => x c _ e fun z => by
  rw [z, hb] at e
  exact nt xs (Option.some.inj e)
theorem LkS.offb {H H1 H2 : Hp} {a b : Addr} {od : Obj} {d : Sm} (h : LkS H H1 a od d) (x : Off b H1 H2) (hb : H b = none) (ne : b ≠ a) : LkS H H2 a od d :=
  ⟨x _ _ h.1 (Ne.symm ne), fun c o e hc => x _ _ (h.2 c o e hc) (ne_of_none e hb)⟩
theorem small_mul {m q : Int} (hq : 0 ≤ q ∧ q < 100) (h : m = q ∨ m = 1 ∨ m = q - 1) : -(2 ^ 64) < m ∧ m < 2 ^ 64 := by
  rcases h with h | h | h <;> omega
/-- e is d led at place i -/
def Led (p q : Int) (n : Nat) (i : Nat) (d e : Sm) : Prop := Canon cd p n e ∧ (∀ h, Eqp p (I e h) (I d (Ts q i h))) ∧ e.length ≤ 2 * d.length
def spLed : Sp := fun vs H Q _ => ∃ (p q : Int) (a : Addr) (i : Nat) (d : Sm) (n : Nat), vs = [.int p, .int q, .ref a, .int (i : Int)] ∧ 0 < p ∧ (0 ≤ q ∧ q < 100) ∧ SumAt H a d ∧ K9.Sum n d ∧ i + 1 < n ∧ n ≤ 7 ∧ d.length ≤ 31 ∧
  ∀ (H' : Hp) (r : Addr) (e : Sm), Same H H' → H r = none → SumAt H' r e → Led p q n i d e → Q (.ref r) H'
section
variable {P : Program} {w : World} {K : PySem.W.Frag} {mg : Str → Option Value} {base : Heap}
theorem scLed : FnScope ["prime", "q", "some", "place", "found", "word", "goal", "number"] ["prime", "q", "some", "place"] (defScope (topS 20)) := ⟨rfl, rfl, rfl, by decide +kernel, rfl, by decide +kernel, by decide +kernel⟩
theorem ok_led {f f1 f2 : Addr} {fd fd1 fd2 : FuncData} (F : Fun K "led_sum" "led_sum" (topS 20) f fd) (D1 : Dn P w K mg base 1 "led_word" ["q", "word", "place"] spLedW f1 fd1) (D2 : Dn P w K mg base 1 "plain_sum" ["prime", "some"] spPlain f2 fd2) :
    FnOk P w K mg base CX0 2 f fd ["prime", "q", "some", "place"] spLed := by
  refine F.ok scLed (fun vs H Q E h => ?_) (fun cdv A outer s H vs Q E hr h => ?_)
  · obtain ⟨p, q, a, i, d, n, rfl, _⟩ := h
    rfl
  · obtain ⟨p, q, a, i, d, n, rfl, hp, hq, ha, hs, hi, hn, hl, k⟩ := h
    have hu := hu_of hr
    refine ⟨_, pss_cons (ps_set (i := 4) scLed.nd rfl (.inl rfl) pe_dnewT)
      (pss_cons (ps_lock (ps_for PassesOwn.never rfl (pi_keys (pv 2)) (pg_name (i := 5) scLed.nd rfl (Or.inl rfl))
        (pss_one (ps_for PassesOwn.never rfl (pi_list (pe_call D1.ok hr (by rfl) D1.g D1.kp D1.b .nil pass0 (pa_cons (pv 1) (pa_cons (pv 5) (pa_cons (pv 3) pa_nil))))) (pg_tup rfl (pgs_cons (pg_name (i := 6) scLed.nd rfl (Or.inl rfl)) (pgs_cons (pg_name (i := 7) scLed.nd rfl (Or.inl rfl)) pgs_nil)))
          (pss_one (ps_dput hu (pv 4) (pv 6) (pe_op op_add (pe_dget2 hu (pv 4) (pv 6) pe_int ⟨rfl, rfl, rfl, rfl⟩) (pe_op op_mul (pe_dget hu (pv 2) (pv 5) (fun _ _ => rfl)) (pv 7))) rfl))))))
      (pss_one (ps_ret (pe_call D2.ok hr (by rfl) D2.g D2.kp D2.b .nil pass0 (pa_cons (pv 0) (pa_cons (pv 4) pa_nil)))))), ?_⟩
    intro fo hfo
    have nea : fo ≠ a := fun z => by rw [z, ha] at hfo; cases hfo
    have ha1 : SumAt (upd H fo (.dT [])) a d := by
      show upd H fo (.dT []) a = _
      rw [upd_ne (Ne.symm nea)]
      exact ha
    refine ⟨a, .dT (enc d), ha1, True.intro, fun od => ⟨.ref a, rfl, a, od, rfl, .inr ⟨enc d, upd_same, ?_⟩⟩⟩
    refine for_it (walk_keysT (d := a) (o := od) (kvs := enc d)) (fun j σ H' => ∃ y5 y6 y7, σ = [some (.int p), some (.int q), some (.ref a), some (.int (i : Int)), some (.ref fo), y5, y6, y7] ∧ LkS H H' a od d ∧ ∃ acc, SumAt H' fo acc ∧ K9.Sum n acc ∧ acc.length ≤ 2 * j ∧ ∀ h, I acc h = I (d.take j) (Ts q i h))
      ⟨none, none, none, rfl, ⟨upd_same, fun c o e hc => by rw [upd_ne hc, upd_ne (ne_of_none e hfo)]; exact e⟩, [], by show upd (upd H fo (.dT [])) a _ fo = _; rw [upd_ne nea]; exact upd_same, ⟨List.nodup_nil, fun kv hm => (nomatch hm)⟩, Nat.le_refl _, fun _ => rfl⟩
      (fun j σ H' _ ⟨_, _, _, _, h, _⟩ => h.1) ?_ ?_
    · rintro j y σ H1 H2 hj ⟨y5, y6, y7, rfl, lk, acc, hacc, sacc, lacc, iacc⟩ ⟨rfl, kk, v, b, hk, rfl, hb⟩
      obtain ⟨kv, e1, rfl, rfl⟩ := enc_at hk
      have hw := wrd_key hb
      have hm := List.mem_of_getElem? e1
      have wx := hs.wd kv hm
      rw [enc_length] at hj
      -- led_word
      refine ⟨_, rfl, _, rfl, _, rfl, q, b, i, kv.1, rfl, hw, by rw [wx.1]; exact hi, by rw [wx.1]; exact hn, fun H3 l ps s3 nl hlist hps => ?_⟩
      have nlf : l ≠ fo := fun z => by rw [z, hacc] at nl; cases nl
      refine ⟨l, rfl, ⟨_, .inl (.inl hlist)⟩, ?_⟩
      refine for_it (walk_list (K := K) (a := l) (xs := ps.map V.ref)) (fun m σ H' => ∃ y6 y7, σ = [some (.int p), some (.int q), some (.ref a), some (.int (i : Int)), some (.ref fo), some (.ref b), y6, y7] ∧ Off fo H3 H' ∧ ∃ ac, SumAt H' fo ac ∧ K9.Sum n ac ∧ ac.length ≤ 2 * j + m ∧ ∀ h, I ac h = I (d.take j) (Ts q i h) + kv.2 * I ((ledWord q kv.1 i).take m) h)
        ⟨y6, y7, rfl, fun c o e _ => e, acc, s3 _ _ hacc, sacc, lacc, fun h => by rw [iacc, List.take_zero, I_nil, Int.mul_zero, Int.add_zero]⟩ (fun m σ H' _ ⟨_, _, _, of, _⟩ => .inl (.inl (of _ _ hlist nlf))) ?_ ?_
      · rintro m y σ G1 G2 hmm ⟨y6, y7, rfl, of, ac, hac, sac, lac, iac⟩ ⟨rfl, hy⟩
        obtain ⟨T, eT, rfl⟩ := ref_at hy
        obtain ⟨gm, egm, g, hg, hT⟩ := paired_get hps eT
        have tp : Tups H3 G2 := of.tups (s3 _ _ hacc) (fun _ z => nomatch z)
        have hg2 : WrdAt G2 g gm.1 := tp _ _ hg
        have lk2 : LkS H G2 a od d := (lk.same s3).offb of hfo nea
        have hw2 : WrdAt G2 b kv.1 := tp _ _ (s3 _ _ hw)
        obtain ⟨wg, sg⟩ := wrd_led wx hi gm (List.mem_of_getElem? egm)
        obtain ⟨o, ho1, ho2⟩ := dget_look (.inl hac) hg2
        have hd := dget_in lk2.rd hw2 (List.mem_map.mpr ⟨kv, hm, rfl⟩)
        rw [look_val hs.nd hm] at hd
        have lm : m < 2 := by
          have z := led_len q kv.1 i
          have z2 : m < (ledWord q kv.1 i).length := (List.getElem?_eq_some_iff.mp egm).1
          omega
        have lac2 : ac.length < sizeLine := small1000 (by omega)
        refine ⟨T, [V.ref g, V.int gm.2], rfl, .inl (.inl (tp _ _ hT)), rfl, _, [V.int gm.2], rfl, _, [], rfl, rfl, ?_⟩
        refine ⟨_, rfl, fo, rfl, .inr ⟨_, .inl hac⟩, _, rfl, o, ho1, _, rfl, _, rfl, a, _, rfl, hd, _, rfl, kv.2, gm.2, rfl, rfl, .inr (small_mul hq sg), look ac gm.1, kv.2 * gm.2, ho2, rfl, _, rfl, _, rfl, fo, _, rfl, dput_enc hac hg2 lac2, ?_⟩
        refine ⟨_, _, rfl, of.trans (off_upd _ _ _), addTo ac gm.1 (kv.2 * gm.2), upd_same, sum_addTo sac wg _, ?_, fun h => ?_⟩
        · have := len_addTo ac gm.1 (kv.2 * gm.2)
          omega
        · rw [I_addTo sac.nd, iac, take_snoc egm, I_snoc, Int.mul_add, Int.mul_assoc]
          omega
      · rintro σ G1 ⟨y6, y7, rfl, of, ac, hac, sac, lac, iac⟩
        have ll : ps.length = (ledWord q kv.1 i).length := Paired.length hps
        rw [List.length_map, ll] at lac iac
        have z := led_len q kv.1 i
        refine ⟨_, _, _, rfl, (lk.same s3).offb of hfo nea, ac, hac, sac, by omega, fun h => ?_⟩
        rw [iac, List.take_length, take_snoc e1, I_snoc]
        rfl
    · rintro σ H1 ⟨y5, y6, y7, rfl, lk, acc, hacc, sacc, lacc, iacc⟩
      rw [enc_length] at lacc iacc
      refine ⟨lk.1, ?_⟩
      have s1 : Same H (upd H1 a (.dT (enc d))) := lk.off ha
      have hacc2 : SumAt (upd H1 a (.dT (enc d))) fo acc := by
        show upd H1 a _ fo = _
        rw [upd_ne nea]
        exact hacc
      refine ⟨_, rfl, _, rfl, p, fo, acc, n, rfl, hp, .inl hacc2, sacc, by omega, by omega, fun H' r e s2 nr hr' c1 c2 c3 => ?_⟩
      refine k H' r e (s1.trans s2) (s1.free nr) hr' ⟨c1, fun h => (c2 h).trans (Eqp.of_eq ?_), by omega⟩
      rw [iacc, List.take_length]
end
end K9

set_option Elab.async false
set_option linter.all false
set_option maxRecDepth 100000
set_option maxHeartbeats 1000000
/-! led_all, length_of, need_route, exchanged, led_along -/
namespace K9
open PySem PySem.Spec PyProof.Rows L2
def TsR (q : Int) : List Nat → (Wd → Int) → Wd → Int
  | [], h => h
  | i :: r, h => Ts q i (TsR q r h)
theorem TsR_snoc (q : Int) (j : Nat) : ∀ (r : List Nat) (h : Wd → Int), TsR q (r ++ [j]) h = TsR q r (Ts q j h)
  | [], _ => rfl
  | i :: r, h => by
    show Ts q i (TsR q (r ++ [j]) h) = Ts q i (TsR q r (Ts q j h))
    rw [TsR_snoc q j r h]
/-- e is d led along a route -/
def LedR (p q : Int) (n : Nat) (rt : List Nat) (d e : Sm) : Prop := Canon cd p n e ∧ ∀ h, Eqp p (I e h) (I d (TsR q rt h))
/-- a route as it stands -/
abbrev rtV (rt : List Nat) : List V := rt.map fun i : Nat => V.int (i : Int)
theorem rt_at {rt : List Nat} {j : Nat} {v : V} (h : (rtV rt)[j]? = some v) : ∃ i, rt[j]? = some i ∧ v = V.int (i : Int) := by
  rw [List.getElem?_map] at h
  cases e : rt[j]? with
  | none => rw [e] at h; cases h
  | some p =>
    rw [e] at h
    exact ⟨p, rfl, (Option.some.inj h).symm⟩
def spAll : Sp := fun vs H Q _ => ∃ (p q : Int) (a l : Addr) (rt : List Nat) (d : Sm) (n : Nat), vs = [.int p, .int q, .ref a, .ref l] ∧ 0 < p ∧ (0 ≤ q ∧ q < 100) ∧ SumAt H a d ∧ K9.Sum n d ∧ H l = some (.lst (rtV rt)) ∧ (∀ i ∈ rt, i + 1 < n) ∧ 1 ≤ n ∧ n ≤ 7 ∧ d.length ≤ 4 ∧ rt.length ≤ 3 ∧
  ∀ (H' : Hp) (r : Addr) (e : Sm), Same H H' → H r = none → SumAt H' r e → LedR p q n rt d e → Q (.ref r) H'
section
variable {P : Program} {w : World} {K : PySem.W.Frag} {mg : Str → Option Value} {base : Heap}
/-! ### led_all -/
theorem scAll : FnScope ["prime", "q", "some", "route", "place"] ["prime", "q", "some", "route"] (defScope (topS 21)) := ⟨rfl, rfl, rfl, by decide +kernel, rfl, by decide +kernel, by decide +kernel⟩
theorem ok_all {f f1 f2 : Addr} {fd fd1 fd2 : FuncData} (F : Fun K "led_all" "led_all" (topS 21) f fd) (D1 : Dn P w K mg base 2 "led_sum" ["prime", "q", "some", "place"] spLed f1 fd1) (D2 : Dn P w K mg base 1 "plain_sum" ["prime", "some"] spPlain f2 fd2) :
    FnOk P w K mg base CX0 3 f fd ["prime", "q", "some", "route"] spAll := by
  refine F.ok scAll (fun vs H Q E h => ?_) (fun cdv A outer s H vs Q E hr h => ?_)
  · obtain ⟨p, q, a, l, rt, d, n, rfl, _⟩ := h
    rfl
  · obtain ⟨p, q, a, l, rt, d, n, rfl, hp, hq, ha, hs, hl, hi, hn1, hn, hd4, hr3, k⟩ := h
    refine ⟨_, pss_cons (ps_for PassesOwn.never rfl (pi_list (pv 3)) (pg_name (i := 4) scAll.nd rfl (Or.inl rfl))
        (pss_one (ps_set (i := 2) scAll.nd rfl (.inl rfl) (pe_call D1.ok hr (by rfl) D1.g D1.kp D1.b .nil pass0 (pa_cons (pv 0) (pa_cons (pv 1) (pa_cons (pv 2) (pa_cons (pv 4) pa_nil))))))))
      (pss_one (ps_ret (pe_call D2.ok (hr.mono (by decide)) (by rfl) D2.g D2.kp D2.b .nil pass0 (pa_cons (pv 0) (pa_cons (pv 2) pa_nil))))), ?_⟩
    refine ⟨.ref l, rfl, l, rfl, ⟨_, .inl (.inl hl)⟩, ?_⟩
    refine for_it (walk_list (K := K) (a := l) (xs := rtV rt)) (fun j σ H' => ∃ (b : Addr) (y4 : Option V) (e : Sm), σ = [some (.int p), some (.int q), some (.ref b), some (.ref l), y4] ∧ Same H H' ∧ SumAt H' b e ∧ K9.Sum n e ∧ e.length ≤ 4 * 2 ^ j ∧ ∀ h, Eqp p (I e h) (I d (TsR q (rt.take j) h)))
      ⟨a, none, d, rfl, Same.refl H, ha, hs, by omega, fun h => Eqp.refl _ _⟩ (fun j σ H' _ ⟨_, _, _, _, s, _⟩ => .inl (.inl (s _ _ hl))) ?_ ?_
    · rintro j y σ H1 H2 hj ⟨b, y4, e, rfl, s1, hb, se, le, ie⟩ ⟨rfl, hy⟩
      obtain ⟨i, ei, rfl⟩ := rt_at hy
      have hj3 : j < 3 := by
        have z : j < (rtV rt).length := hj
        rw [List.length_map] at z
        omega
      have l16 : e.length ≤ 16 := by
        have : j = 0 ∨ j = 1 ∨ j = 2 := by omega
        rcases this with z | z | z <;> subst z <;> omega
      refine ⟨_, rfl, _, rfl, _, rfl, _, rfl, p, q, b, i, e, n, rfl, hp, hq, hb, se, hi i (List.mem_of_getElem? ei), hn, by omega, fun H3 r e2 s2 nr hr2 le2 => ?_⟩
      refine ⟨r, _, e2, rfl, s1.trans s2, hr2, le2.1.sum, ?_, fun h => ?_⟩
      · have := le2.2.2
        rw [Nat.pow_succ]
        omega
      · rw [take_snoc ei, TsR_snoc]
        exact (le2.2.1 h).trans (ie _)
    · rintro σ H1 ⟨b, y4, e, rfl, s1, hb, se, le, ie⟩
      have lr : (rtV rt).length = rt.length := List.length_map ..
      rw [lr] at le ie
      rw [List.take_length] at ie
      have l32 : e.length ≤ 32 := by
        have : rt.length = 0 ∨ rt.length = 1 ∨ rt.length = 2 ∨ rt.length = 3 := by omega
        rcases this with z | z | z | z <;> rw [z] at le <;> omega
      refine ⟨_, rfl, _, rfl, p, b, e, n, rfl, hp, .inl hb, se, hn1, by omega, fun H' r e2 s2 nr hr' c1 c2 c3 => ?_⟩
      exact k H' r e2 (s1.trans s2) (s1.free nr) hr' ⟨c1, fun h => (c2 h).trans (ie h)⟩
/-! ### length_of -/
theorem scLen : FnScope ["some", "word"] ["some"] (defScope (topS 22)) := ⟨rfl, rfl, rfl, by decide +kernel, rfl, by decide +kernel, by decide +kernel⟩
def spLen : Sp := fun vs H Q _ => ∃ (a : Addr) (d : Sm) (n : Nat), vs = [.ref a] ∧ SumAt H a d ∧ K9.Sum n d ∧ d ≠ [] ∧ d.length < 64 ∧ ∀ H', Same H H' → Q (.int (n : Int)) H'
theorem ok_len {f : Addr} {fd : FuncData} (F : Fun K "length_of" "length_of" (topS 22) f fd) (B : Bl mg) : FnOk P w K mg base CX0 1 f fd ["some"] spLen := by
  refine F.ok scLen (fun vs H Q E h => ?_) (fun cdv A outer s H vs Q E hr h => ?_)
  · obtain ⟨a, d, n, rfl, _⟩ := h
    rfl
  · obtain ⟨a, d, n, rfl, ha, hs, hne, h64, q⟩ := h
    refine ⟨_, pss_one (ps_ret (pe_callBK (cr_maxDf rfl) (by rfl) B.max (by decide +kernel) (pa_cons (pe_lock (pe_lc (own := [("word", 1)]) (g := gName 1) (tt := tYes) rfl scLen.nd (pi_keys (pv 0)) (blkOk_by (N := ["some", "word"]) (sc := defScope (topS 22)) (by decide +kernel))
          (fun _ _ _ _ _ => pg_name (i := 1) scLen.nd rfl (Or.inl rfl)) (fun _ _ _ _ _ => pts_nil)
          (fun _ _ _ _ _ => pe_callB (cr_len (K := K) rfl) (by rfl) B.len PySem.boot_len (pa_cons (pv 1) pa_nil)))) pa_nil) (pk_cons pe_int pk_nil))), ?_⟩
    refine ⟨a, .dT (enc d), ha, True.intro, fun od => ⟨.ref a, rfl, a, od, rfl, .inr ⟨enc d, upd_same, fun D hD => ?_⟩⟩⟩
    have lk0 : LkS H (upd H a (.frz od (.dT (enc d)))) a od d := ⟨upd_same, same_lock⟩
    obtain ⟨hD0, neD⟩ := lk0.free hD
    refine lc_it (walk_keysT (d := a) (o := od) (kvs := enc d)) (fun i H' => LkS H H' a od d ∧ H' D = some (.lst ((List.replicate i (n : Int)).map V.int))) ⟨lk0.upd hD0 neD, upd_same⟩ (fun i H' _ h => h.1.1) ?_ ?_
    · rintro i y H1 H2 hi ⟨h1, h2⟩ ⟨rfl, kk, v, b, hk, rfl, hb⟩
      obtain ⟨kv, e1, e2, e3⟩ := enc_at hk
      rw [e2] at hb
      have hw := wrd_key hb
      have hl := (hs.wd kv (List.mem_of_getElem? e1)).1
      rw [enc_length] at hi
      refine ⟨rfl, yes_in ?_⟩
      refine ⟨.ref b, rfl, b, _, rfl, .inr (.inl (.inl hw)), _, h2, ?_, h1.upd hD0 neD, ?_⟩
      · rw [List.length_map, List.length_replicate]
        exact small1000 (by omega)
      · rw [upd_same, List.length_map, hl, List.map_replicate, List.map_replicate, List.replicate_succ']
    · rintro H1 ⟨h1, h2⟩
      obtain ⟨c, ec⟩ : ∃ c, (enc d).length = c + 1 := by
        rw [enc_length]
        cases d with
        | nil => exact absurd rfl hne
        | cons x r => exact ⟨r.length, rfl⟩
      rw [ec] at h2
      refine ⟨h1.1, D, (n : Int), c, .int 0, rfl, rfl, .inl (.inl ?_), q _ (h1.off ha)⟩
      rw [upd_ne neD]
      exact h2
/-! ### need_route -/
theorem scRou : FnScope ["some", "route", "most", "place"] ["some", "route"] (defScope (topS 23)) := ⟨rfl, rfl, rfl, by decide +kernel, rfl, by decide +kernel, by decide +kernel⟩
def spRou : Sp := fun vs H Q _ => ∃ (a l : Addr) (rt : List Nat) (d : Sm) (n : Nat), vs = [.ref a, .ref l] ∧ SumAt H a d ∧ K9.Sum n d ∧ d ≠ [] ∧ d.length < 64 ∧ H l = some (.lst (rtV rt)) ∧ (∀ i ∈ rt, i + 1 < n) ∧ rt.length ≤ 3 ∧ ∀ H', Same H H' → Q .non H'
theorem ok_rou {f f1 f2 f3 : Addr} {fd fd1 fd2 fd3 : FuncData} (F : Fun K "need_route" "need_route" (topS 23) f fd) (B : Bl mg) (D1 : Dn P w K mg base 1 "length_of" ["some"] spLen f1 fd1) (D2 : Dn P w K mg base 1 "is_list" ["thing"] spLst f2 fd2)
    (D3 : Dn P w K mg base 2 "is_between" ["thing", "low", "high"] spBet f3 fd3) : FnOk P w K mg base CX0 3 f fd ["some", "route"] spRou := by
  refine F.ok scRou (fun vs H Q E h => ?_) (fun cdv A outer s H vs Q E hr h => ?_)
  · obtain ⟨a, l, rt, d, n, rfl, _⟩ := h
    rfl
  · obtain ⟨a, l, rt, d, n, rfl, ha, hs, hne, h64, hl, hi, hr3, q⟩ := h
    refine ⟨_, pss_cons (ps_set (i := 2) scRou.nd rfl (.inr rfl) (pe_op op_sub (pe_call D1.ok (hr.mono (by decide)) (by rfl) D1.g D1.kp D1.b .nil pass0 (pa_cons (pv 0) pa_nil)) pe_int))
      (pss_one (ps_if (PW.pt (pw_or (pt_not (pt_val (pe_call D2.ok (hr.mono (by decide)) (by rfl) D2.g D2.kp D2.b .nil pass0 (pa_cons (pv 1) pa_nil))))
        (pw_or1 (pt_not (pt_val (pe_callB (cr_all rfl) (by rfl) B.all (by decide +kernel) (pa_cons (pe_lc (own := [("place", 3)]) (g := gName 3) (tt := tYes) rfl scRou.nd (pi_list (pv 1)) (blkOk_by (N := ["some", "route", "most", "place"]) (sc := defScope (topS 23)) (by decide +kernel))
          (fun _ _ _ _ _ => pg_name (i := 3) scRou.nd rfl (Or.inl rfl)) (fun _ _ _ _ _ => pts_nil)
          (fun _ _ _ _ _ => pe_call D3.ok hr (by rfl) D3.g D3.kp D3.b .nil pass0 (pa_cons (pv 3) (pa_cons pe_int (pa_cons (pv 2) pa_nil))))) pa_nil)))))))
        (pss_one ps_never) pss_nil)), ?_⟩
    refine ⟨_, rfl, a, d, n, rfl, ha, hs, hne, h64, fun H1 s1 => ⟨(n : Int), 2, rfl, rfl, ?_⟩⟩
    refine ⟨_, rfl, l, _, rfl, s1 _ _ hl, fun H2 s2 => ⟨true, rfl, iteF ?_⟩⟩
    have s12 := s1.trans s2
    have hl2 := s12 _ _ hl
    refine ⟨_, rfl, l, rfl, ⟨_, .inl (.inl hl2)⟩, fun D hD => ?_⟩
    refine lc_it (walk_list (K := K) (a := l) (xs := rtV rt)) (fun i H' => Same H2 H' ∧ H' D = some (.lst ((List.replicate i true).map V.bl))) ⟨same_new hD, upd_same⟩ (fun i H' _ h => .inl (.inl (h.1 _ _ hl2))) ?_ ?_
    · rintro j y G1 G2 hj ⟨h1, h2⟩ ⟨rfl, hy⟩
      obtain ⟨i, ei, rfl⟩ := rt_at hy
      have z := hi i (List.mem_of_getElem? ei)
      have hj3 : j < 3 := by
        have z : j < (rtV rt).length := hj
        rw [List.length_map] at z
        omega
      refine ⟨rfl, yes_in ?_⟩
      refine ⟨_, rfl, _, rfl, (i : Int), 0, (n : Int) - 2, rfl, by omega, by omega, _, h2, ?_, fun c o e => ?_, ?_⟩
      · rw [List.length_map, List.length_replicate]
        exact small1000 (by omega)
      · rw [upd_ne (ne_of_none e hD)]
        exact h1 c o e
      · rw [upd_same, rep_snoc]
    · rintro G1 ⟨h1, h2⟩
      refine ⟨D, List.replicate (rtV rt).length true, rfl, .inl (.inl h2), _, rfl, iteFe (by rw [all_rep]; rfl) ?_⟩
      exact q _ (s12.trans h1)
end
end K9

set_option Elab.async false
set_option linter.all false
set_option maxRecDepth 100000
set_option maxHeartbeats 1000000
/-! exchanged, led_along, falls_of, power -/
namespace K9
open PySem PySem.Spec PyProof.Rows L2
def spExch : Sp := fun vs H Q _ => ∃ (p q : Int) (a : Addr) (i : Nat) (d : Sm) (n : Nat), vs = [.int p, .int q, .ref a, .int (i : Int)] ∧ p ∈ primes ∧ 0 < q ∧ q < p ∧ SumAt H a d ∧ K9.Sum n d ∧ d ≠ [] ∧ i + 1 < n ∧ n ≤ 7 ∧ d.length ≤ 31 ∧
  ∀ (H' : Hp) (r : Addr) (e : Sm), Same H H' → H r = none → SumAt H' r e → Led p q n i d e → Q (.ref r) H'
def spAlong : Sp := fun vs H Q _ => ∃ (p q : Int) (a l : Addr) (rt : List Nat) (d : Sm) (n : Nat), vs = [.int p, .int q, .ref a, .ref l] ∧ p ∈ primes ∧ 0 < q ∧ q < p ∧ SumAt H a d ∧ K9.Sum n d ∧ d ≠ [] ∧ H l = some (.lst (rtV rt)) ∧ (∀ i ∈ rt, i + 1 < n) ∧ 1 ≤ n ∧ n ≤ 7 ∧ d.length ≤ 4 ∧ rt.length ≤ 3 ∧
  ∀ (H' : Hp) (r : Addr) (e : Sm), Same H H' → H r = none → SumAt H' r e → LedR p q n rt d e → Q (.ref r) H'
section
variable {P : Program} {w : World} {K : PySem.W.Frag} {mg : Str → Option Value} {base : Heap}
theorem scExch : FnScope ["prime", "q", "words", "place", "bend"] ["prime", "q", "words", "place"] (defScope (topS 24)) := ⟨rfl, rfl, rfl, by decide +kernel, rfl, by decide +kernel, by decide +kernel⟩
theorem ok_exch {f f1 f2 f3 f4 : Addr} {fd fd1 fd2 fd3 fd4 : FuncData} (F : Fun K "exchanged" "exchanged" (topS 24) f fd) (D1 : Dn P w K mg base 3 "need_bend" ["prime", "q"] spBend f1 fd1) (D2 : Dn P w K mg base 4 "need_sum" ["thing"] spNsum f2 fd2)
    (D3 : Dn P w K mg base 3 "need_route" ["some", "route"] spRou f3 fd3) (D4 : Dn P w K mg base 2 "led_sum" ["prime", "q", "some", "place"] spLed f4 fd4) : FnOk P w K mg base CX0 5 f fd ["prime", "q", "words", "place"] spExch := by
  refine F.ok scExch (fun vs H Q E h => ?_) (fun cdv A outer s H vs Q E hr h => ?_)
  · obtain ⟨p, q, a, i, d, n, rfl, _⟩ := h
    rfl
  · obtain ⟨p, q, a, i, d, n, rfl, hp, hq, hqp, ha, hs, hne, hi, hn, hl, k⟩ := h
    have pp := primes_pos hp
    refine ⟨_, pss_cons (ps_set (i := 4) scExch.nd rfl (.inl rfl) (pe_call D1.ok (hr.mono (by decide)) (by rfl) D1.g D1.kp D1.b .nil pass0 (pa_cons (pv 0) (pa_cons (pv 1) pa_nil))))
      (pss_cons (ps_expr (pe_call D2.ok hr (by rfl) D2.g D2.kp D2.b .nil pass0 (pa_cons (pv 2) pa_nil)))
      (pss_cons (ps_expr (pe_call D3.ok (hr.mono (by decide)) (by rfl) D3.g D3.kp D3.b .nil pass0 (pa_cons (pv 2) (pa_cons (pe_lst (pa_cons (pv 3) pa_nil)) pa_nil))))
      (pss_one (ps_ret (pe_call D4.ok (hr.mono (by decide)) (by rfl) D4.g D4.kp D4.b .nil pass0 (pa_cons (pv 0) (pa_cons (pv 4) (pa_cons (pv 2) (pa_cons (pv 3) pa_nil))))))))), ?_⟩
    refine ⟨_, rfl, _, rfl, p, q, rfl, hp, hq, hqp, ?_⟩
    refine ⟨_, rfl, a, d, n, rfl, ha, hs, hn, by omega, fun H1 s1 => ?_⟩
    refine ⟨_, rfl, _, rfl, by show 1 ≤ sizeLine; decide, fun l hl2 => ?_⟩
    have s2 : Same H (upd H1 l (.lst [V.int (i : Int)])) := s1.trans (same_new hl2)
    refine ⟨a, l, [i], d, n, rfl, s2 _ _ ha, hs, hne, by omega, upd_same, fun j hj => by rw [List.mem_singleton.mp hj]; exact hi, Nat.le_of_ble_eq_true rfl, fun H3 s3 => ?_⟩
    have s23 := s2.trans s3
    refine ⟨_, rfl, _, rfl, _, rfl, _, rfl, p, q, a, i, d, n, rfl, by omega, by omega, s23 _ _ ha, hs, hi, hn, hl, fun H' r e s4 nr hr' c => ?_⟩
    exact k H' r e (s23.trans s4) (s23.free nr) hr' c
theorem scAlong : FnScope ["prime", "q", "words", "route", "bend"] ["prime", "q", "words", "route"] (defScope (topS 25)) := ⟨rfl, rfl, rfl, by decide +kernel, rfl, by decide +kernel, by decide +kernel⟩
theorem ok_along {f f1 f2 f3 f4 : Addr} {fd fd1 fd2 fd3 fd4 : FuncData} (F : Fun K "led_along" "led_along" (topS 25) f fd) (D1 : Dn P w K mg base 3 "need_bend" ["prime", "q"] spBend f1 fd1) (D2 : Dn P w K mg base 4 "need_sum" ["thing"] spNsum f2 fd2)
    (D3 : Dn P w K mg base 3 "need_route" ["some", "route"] spRou f3 fd3) (D4 : Dn P w K mg base 3 "led_all" ["prime", "q", "some", "route"] spAll f4 fd4) : FnOk P w K mg base CX0 5 f fd ["prime", "q", "words", "route"] spAlong := by
  refine F.ok scAlong (fun vs H Q E h => ?_) (fun cdv A outer s H vs Q E hr h => ?_)
  · obtain ⟨p, q, a, l, rt, d, n, rfl, _⟩ := h
    rfl
  · obtain ⟨p, q, a, l, rt, d, n, rfl, hp, hq, hqp, ha, hs, hne, hl, hi, hn1, hn, hd4, hr3, k⟩ := h
    have pp := primes_pos hp
    refine ⟨_, pss_cons (ps_set (i := 4) scAlong.nd rfl (.inl rfl) (pe_call D1.ok (hr.mono (by decide)) (by rfl) D1.g D1.kp D1.b .nil pass0 (pa_cons (pv 0) (pa_cons (pv 1) pa_nil))))
      (pss_cons (ps_expr (pe_call D2.ok hr (by rfl) D2.g D2.kp D2.b .nil pass0 (pa_cons (pv 2) pa_nil)))
      (pss_cons (ps_expr (pe_call D3.ok (hr.mono (by decide)) (by rfl) D3.g D3.kp D3.b .nil pass0 (pa_cons (pv 2) (pa_cons (pv 3) pa_nil))))
      (pss_one (ps_ret (pe_call D4.ok (hr.mono (by decide)) (by rfl) D4.g D4.kp D4.b .nil pass0 (pa_cons (pv 0) (pa_cons (pv 4) (pa_cons (pv 2) (pa_cons (pv 3) pa_nil))))))))), ?_⟩
    refine ⟨_, rfl, _, rfl, p, q, rfl, hp, hq, hqp, ?_⟩
    refine ⟨_, rfl, a, d, n, rfl, ha, hs, hn, by omega, fun H1 s1 => ?_⟩
    refine ⟨_, rfl, _, rfl, a, l, rt, d, n, rfl, s1 _ _ ha, hs, hne, by omega, s1 _ _ hl, hi, hr3, fun H3 s3 => ?_⟩
    have s13 := s1.trans s3
    refine ⟨_, rfl, _, rfl, _, rfl, _, rfl, p, q, a, l, rt, d, n, rfl, by omega, by omega, s13 _ _ ha, hs, s13 _ _ hl, hi, hn1, hn, hd4, hr3, fun H' r e s4 nr hr' c => ?_⟩
    exact k H' r e (s13.trans s4) (s13.free nr) hr' c
/-! ### power -/
def spPow : Sp := fun vs H Q _ => ∃ (p q : Int) (m : Nat), vs = [.int p, .int q, .int (m : Int)] ∧ 0 < p ∧ p < 100 ∧ (0 ≤ q ∧ q < 100) ∧ m ≤ 1000 ∧ Q (.int (pw p q m)) H
theorem pw_small {p q : Int} (hp : 0 < p) (h1 : p < 100) : ∀ m, -(2 ^ 64) < pw p q m ∧ pw p q m < 2 ^ 64
  | 0 => by
    show -(2 ^ 64) < (1 : Int) ∧ (1 : Int) < 2 ^ 64
    decide
  | m + 1 => by
    show -(2 ^ 64) < pw p q m * q % p ∧ pw p q m * q % p < 2 ^ 64
    have a := Int.emod_nonneg (pw p q m * q) (show p ≠ 0 by omega)
    have b := Int.emod_lt_of_pos (pw p q m * q) hp
    omega
theorem scPow : FnScope ["prime", "base", "many", "found", "lap"] ["prime", "base", "many"] (defScope (topS 27)) := ⟨rfl, rfl, rfl, by decide +kernel, rfl, by decide +kernel, by decide +kernel⟩
theorem ok_pow {f : Addr} {fd : FuncData} (F : Fun K "power" "power" (topS 27) f fd) (B : Bl mg) : FnOk P w K mg base CX0 1 f fd ["prime", "base", "many"] spPow := by
  refine F.ok scPow (fun vs H Q E h => ?_) (fun cdv A outer s H vs Q E hr h => ?_)
  · obtain ⟨p, q, m, rfl, _⟩ := h
    rfl
  · obtain ⟨p, q, m, rfl, hp, hp1, hq, hm, k⟩ := h
    refine ⟨_, pss_cons (ps_set (i := 3) scPow.nd rfl (.inl rfl) pe_int)
      (pss_cons (ps_for PassesOwn.never rfl (pi_range1 (by rfl) B.range (pa_cons (pv 2) pa_nil)) (pg_name (i := 4) scPow.nd rfl (Or.inl rfl))
        (pss_one (ps_set (i := 3) scPow.nd rfl (.inl rfl) (pe_op op_mod (pe_op op_mul (pv 3) (pv 1)) (pv 0)))))
      (pss_one (ps_ret (pv 3)))), ?_⟩
    refine ⟨_, rfl, (m : Int), rfl, by omega, by omega, ?_⟩
    have em : (m : Int).toNat = m := Int.toNat_natCast m
    refine for_it (walk_range (lo := 0) (n := (m : Int).toNat)) (fun j σ H' => ∃ y4 : Option V, σ = [some (.int p), some (.int q), some (.int (m : Int)), some (.int (pw p q j)), y4] ∧ H' = H) ⟨none, rfl, rfl⟩ (fun j σ H' _ _ => True.intro) ?_ ?_
    · rintro j y σ H1 H2 hj ⟨y4, rfl, rfl⟩ ⟨rfl, rfl⟩
      refine ⟨_, rfl, _, rfl, pw p q j, q, rfl, rfl, .inr (by omega), _, rfl, _, p, rfl, rfl, hp, ?_⟩
      exact ⟨_, rfl, rfl⟩
    · rintro σ H1 ⟨y4, rfl, rfl⟩
      rw [em]
      exact ⟨_, rfl, k⟩
end
end K9

set_option Elab.async false
set_option linter.all false
set_option maxRecDepth 100000
set_option maxHeartbeats 1000000
/-! falls_of -/
namespace K9
open PySem PySem.Spec PyProof.Rows L2
def spFalls : Sp := fun vs H Q _ => ∃ (b : Addr) (x : Wd) (n : Nat), vs = [.ref b] ∧ WrdAt H b x ∧ Wrd n x ∧ n ≤ 7 ∧ ∀ H', Same H H' → Q (.int (fl x : Int)) H'
section
variable {P : Program} {w : World} {K : PySem.W.Frag} {mg : Str → Option Value} {base : Heap}
theorem sl_tupK {X : Cx} {K : PySem.W.Frag} (h : X.K = K) : SlR X (rSlT K) := by
  subst h
  exact sl_tup
theorem ix_tupK {X : Cx} {K : PySem.W.Frag} (h : X.K = K) : IxR X (rIxT K) := by
  subst h
  exact ix_tup
theorem pi_tupK {X : Cx} {K : PySem.W.Frag} {tg l : Expr} {tl : TE} (h : X.K = K) (hl : PE X l tl) : PI X tg l (iTup K tl) := by
  subst h
  exact pi_tup hl
theorem scFalls : FnScope ["word", "k", "item"] ["word"] (defScope (topS 26)) := ⟨rfl, rfl, rfl, by decide +kernel, rfl, by decide +kernel, by decide +kernel⟩
/-- the scope of the comprehension that a def sums up -/
def lcScope : Expr → Scope
  | .ListComp _ _ sc _ => sc
  | _ => { kind := .function, names := [], isGenerator := false, isCoroutine := false }
def sumScope (s : Stmt) : Scope := match defBody s with
  | [.Return (some (.Call _ [e] _ _)) _] => lcScope e
  | _ => { kind := .function, names := [], isGenerator := false, isCoroutine := false }
theorem ok_falls {f : Addr} {fd : FuncData} (F : Fun K "falls_of" "falls_of" (topS 26) f fd) (B : Bl mg) : FnOk P w K mg base CX0 1 f fd ["word"] spFalls := by
  refine F.ok scFalls (fun vs H Q E h => ?_) (fun cdv A outer s H vs Q E hr h => ?_)
  · obtain ⟨b, x, n, rfl, _⟩ := h
    rfl
  · obtain ⟨b, x, n, rfl, hb, hx, hn, q⟩ := h
    have hT : SqT K H b (x.map V.int) := .inl (.inl hb)
    refine ⟨_, pss_one (ps_ret (pe_callB (cr_sum rfl) (by rfl) B.sum (by decide +kernel) (pa_cons (pe_lc (own := [("k", 1)]) (g := gName 1) (tt := tYes) rfl scFalls.nd (pi_range1 (by rfl) B.range (pa_cons (pe_callB (cr_len (K := K) rfl) (by rfl) B.len PySem.boot_len (pa_cons (pv 0) pa_nil)) pa_nil))
        (blkOk_by (N := ["word", "k", "item"]) (sc := defScope (topS 26)) (by decide +kernel))
        (fun _ _ _ _ _ => pg_name (i := 1) scFalls.nd rfl (Or.inr rfl)) (fun _ _ _ _ _ => pts_nil)
        (fun _ _ _ _ _ => pe_callB (cr_len (K := K) rfl) (by rfl) B.len PySem.boot_len (pa_cons (pe_lc (own := [("item", 2)]) (g := gName 2) rfl scFalls.nd
          (pi_tupK (K := K) rfl (pe_slice (sl_tupK (K := K) rfl) (pv 0) (po_some (pe_op op_add (pv 1) pe_int)) po_none)) (blkOk_by (N := ["word", "k", "item"]) (sc := relS (sumScope (topS 26)) (defScope (topS 26))) (by decide +kernel)) (fun _ _ _ _ _ => pg_name (i := 2) scFalls.nd rfl (Or.inl rfl))
          (fun _ _ _ _ _ => pts_one (pt_cmpR op_lt (pv 2) (pe_ix (ix_tupK (K := K) rfl) (pv 0) (pv 1) (fun _ _ => rfl)) (nomark _))) (fun _ _ _ _ _ => pv 2)) pa_nil))) pa_nil))), ?_⟩
    have en : ((x.length : Nat) : Int).toNat = x.length := Int.toNat_natCast _
    refine ⟨_, rfl, b, _, rfl, .inr hT, _, rfl, by rw [List.length_map, hx.1]; omega, by rw [List.length_map, hx.1]; omega, fun D hD => ?_⟩
    rw [List.length_map, en]
    refine lc_it (walk_range (lo := 0) (n := x.length)) (fun i H' => Same H H' ∧ H' D = some (.lst (((List.range i).map fun k => (cnt x k : Int)).map V.int))) ⟨same_new hD, upd_same⟩ (fun i H' _ h => True.intro) ?_ ?_
    · rintro i y H1 H2 hi ⟨h1, h2⟩ ⟨rfl, rfl⟩
      have hT2 := same_tup h1 hT
      have e0 : (0 : Int) + (i : Int) + 1 = ((i + 1 : Nat) : Int) := by omega
      have e1 : (0 : Int) + (i : Int) = ((i : Nat) : Int) := by omega
      refine ⟨rfl, yes_in ?_⟩
      refine ⟨_, rfl, _, rfl, _, 1, rfl, rfl, _, rfl, b, _, rfl, hT2, ?_, fun t n1 => ?_⟩
      · rw [e0, HT.sIx_nat, List.length_map]
        omega
      · rw [e0, cut_drop x (i + 1) (by omega)]
        have s3 : Same H2 (upd H2 t (.tup ((x.drop (i + 1)).map V.int))) := same_new n1
        have u3 : WrdAt (upd H2 t (.tup ((x.drop (i + 1)).map V.int))) t (x.drop (i + 1)) := upd_same
        generalize upd H2 t (.tup ((x.drop (i + 1)).map V.int)) = H3 at s3 u3 ⊢
        refine ⟨t, rfl, ⟨_, .inl (.inl u3)⟩, fun D2 hD2 => ?_⟩
        refine lc_it (walk_tup (K := K) (a := t) (xs := (x.drop (i + 1)).map V.int)) (fun j G => Same H3 G ∧ G D2 = some (.lst ((((x.drop (i + 1)).take j).filter fun z => decide (z < at0 x i)).map V.int))) ⟨same_new hD2, upd_same⟩ (fun j G _ h => .inl (.inl (h.1 _ _ u3))) ?_ ?_
        · rintro j y G1 G2 hj ⟨g1, g2⟩ ⟨rfl, hy⟩
          obtain ⟨m, rfl, hm⟩ := int_at hy
          have hT4 := same_tup (s3.trans g1) hT2
          refine ⟨rfl, ?_⟩
          refine ⟨_, rfl, _, rfl, _, rfl, b, _, _, _, rfl, rfl, hT4, ?_, m, at0 x i, rfl, rfl, _, rfl, ?_⟩
          · rw [e1]
            exact atI_nat (at0_get hi)
          · rw [take_snoc hm, List.filter_append]
            by_cases c : m < at0 x i
            · refine iteTe (decide_eq_true c) ?_
              refine ⟨_, rfl, _, g2, ?_, fun a o e => ?_, ?_⟩
              · rw [List.length_map]
                refine small1000 (Nat.le_trans (List.length_filter_le _ _) ?_)
                rw [List.length_take, List.length_drop, hx.1]
                omega
              · rw [upd_ne (ne_of_none e hD2)]
                exact g1 a o e
              · rw [upd_same, List.filter_cons_of_pos (by simpa using c), List.map_append]
                rfl
            · refine iteFe (decide_eq_false c) ⟨g1, ?_⟩
              rw [g2, List.filter_cons_of_neg (by simpa using c)]
              simp
        · rintro G1 ⟨g1, g2⟩
          rw [List.length_map, List.take_length] at g2
          have sg := s3.trans g1
          refine ⟨D2, _, rfl, .inl (.inl (.inl g2)), _, sg _ _ h2, ?_, fun a o e => ?_, ?_⟩
          · rw [List.length_map, List.length_map, List.length_range]
            exact small1000 (by rw [hx.1] at hi; omega)
          · rw [upd_ne (ne_of_none e hD)]
            exact sg a o (h1 a o e)
          · rw [upd_same, List.range_succ, List.map_append, List.map_append, List.length_map]
            rfl
    · rintro H1 ⟨h1, h2⟩
      refine ⟨D, _, rfl, .inl (.inl h2), ?_⟩
      rw [cnt_sum]
      exact q H1 h1
end
end K9

set_option Elab.async false
set_option linter.all false
set_option maxRecDepth 100000
set_option maxHeartbeats 1000000
/-! word_form_of, word_form -/
namespace K9
open PySem PySem.Spec PyProof.Rows L2
theorem fl_le : ∀ x : Wd, fl x ≤ x.length * x.length
  | [] => Nat.le_refl _
  | a :: r => by
    have ih := fl_le r
    have h1 : (r.filter fun x => decide (x < a)).length ≤ r.length := List.length_filter_le _ _
    show (r.filter fun x => decide (x < a)).length + fl r ≤ (r.length + 1) * (r.length + 1)
    rw [Nat.add_mul, Nat.mul_add]
    omega
theorem fl_few {n : Nat} {x : Wd} (h : Wrd n x) (hn : n ≤ 7) : fl x ≤ 1000 := by
  have z := fl_le x
  rw [h.1] at z
  have : n * n ≤ 7 * 7 := Nat.mul_le_mul hn hn
  omega
theorem enc_inj : ∀ {d e : Sm}, enc d = enc e → d = e
  | [], [], _ => rfl
  | [], _ :: _, h => nomatch h
  | _ :: _, [], h => nomatch h
  | x :: d, y :: e, h => by
    have h' : (ek x.1, V.int x.2) :: enc d = (ek y.1, V.int y.2) :: enc e := h
    injection h' with h1 h2
    injection h1 with h3 h4
    injection h4 with h4
    rw [enc_inj h2, Prod.ext (ek_inj h3) h4]
theorem LkS.rdb {H H' : Hp} {a b : Addr} {od : Obj} {d e : Sm} (h : LkS H H' a od d) (ha : SumAt H a d) (hb : SumAt H b e) : Rd H' b (.dT (enc e)) := by
  by_cases z : b = a
  · subst z
    have e1 : enc e = enc d := HO.dT.inj (Option.some.inj (hb.symm.trans ha))
    rw [enc_inj e1]
    exact h.rd
  · exact .inl (h.2 _ _ hb z)
theorem LkS.tup {H H' : Hp} {a b : Addr} {od : Obj} {d : Sm} {x : Wd} (h : LkS H H' a od d) (ha : SumAt H a d) (hb : WrdAt H b x) : WrdAt H' b x :=
  h.2 _ _ hb fun z => by
    rw [z] at hb
    exact nomatch hb.symm.trans ha
def spFormOf : Sp := fun vs H Q _ => ∃ (p q : Int) (a b : Addr) (one other : Sm) (n : Nat), vs = [.int p, .int q, .ref a, .ref b] ∧ 0 < p ∧ p < 100 ∧ (0 ≤ q ∧ q < 100) ∧ SumAt H a one ∧ SumAt H b other ∧ Canon cd p n one ∧ Canon cd p n other ∧ n ≤ 7 ∧
  ∀ H', Same H H' → Q (.int (fm p q one other % p)) H'
def spForm : Sp := fun vs H Q _ => ∃ (p q : Int) (a b : Addr) (one other : Sm) (n : Nat), vs = [.int p, .int q, .ref a, .ref b] ∧ p ∈ primes ∧ 0 < q ∧ q < p ∧ SumAt H a one ∧ SumAt H b other ∧ Canon cd p n one ∧ Canon cd p n other ∧ n ≤ 7 ∧ one.length < 64 ∧ other.length < 64 ∧
  ∀ H', Same H H' → Q (.int (fm p q one other % p)) H'
section
variable {P : Program} {w : World} {K : PySem.W.Frag} {mg : Str → Option Value} {base : Heap}
theorem scFormOf : FnScope ["prime", "q", "one", "other", "found", "word"] ["prime", "q", "one", "other"] (defScope (topS 28)) := ⟨rfl, rfl, rfl, by decide +kernel, rfl, by decide +kernel, by decide +kernel⟩
theorem ok_formOf {f f1 f2 : Addr} {fd fd1 fd2 : FuncData} (F : Fun K "word_form_of" "word_form_of" (topS 28) f fd) (D1 : Dn P w K mg base 1 "power" ["prime", "base", "many"] spPow f1 fd1) (D2 : Dn P w K mg base 1 "falls_of" ["word"] spFalls f2 fd2) :
    FnOk P w K mg base CX0 2 f fd ["prime", "q", "one", "other"] spFormOf := by
  refine F.ok scFormOf (fun vs H Q E h => ?_) (fun cdv A outer s H vs Q E hr h => ?_)
  · obtain ⟨p, q, a, b, one, other, n, rfl, _⟩ := h
    rfl
  · obtain ⟨p, q, a, b, one, other, n, rfl, hp, hp1, hq, ha, hb, c1, c2, hn, k⟩ := h
    have hu := hu_of hr
    refine ⟨_, pss_cons (ps_set (i := 4) scFormOf.nd rfl (.inl rfl) pe_int)
      (pss_cons (ps_lock (ps_for PassesOwn.never rfl (pi_keys (pv 2)) (pg_name (i := 5) scFormOf.nd rfl (Or.inl rfl))
        (pss_one (ps_if (pt_cmp (pc_din hu (pv 5) (pv 3)))
          (pss_one (ps_aug (i := 4) scFormOf.nd rfl (.inl rfl) (pe_op op_mul (pe_op op_mul (pe_dget hu (pv 2) (pv 5) (fun _ _ => rfl)) (pe_dget hu (pv 3) (pv 5) (fun _ _ => rfl)))
            (pe_call D1.ok hr (by rfl) D1.g D1.kp D1.b .nil pass0 (pa_cons (pv 0) (pa_cons (pv 1) (pa_cons (pe_call D2.ok hr (by rfl) D2.g D2.kp D2.b .nil pass0 (pa_cons (pv 5) pa_nil)) pa_nil))))) ip_add)) pss_nil))))
      (pss_one (ps_ret (pe_op op_mod (pv 4) (pv 0))))), ?_⟩
    refine ⟨a, .dT (enc one), ha, True.intro, fun od => ⟨.ref a, rfl, a, od, rfl, .inr ⟨enc one, upd_same, ?_⟩⟩⟩
    refine for_it (walk_keysT (d := a) (o := od) (kvs := enc one)) (fun j σ H' => ∃ y5 : Option V, σ = [some (.int p), some (.int q), some (.ref a), some (.ref b), some (.int (fm p q (one.take j) other)), y5] ∧ LkS H H' a od one)
      ⟨none, rfl, upd_same, same_lock⟩ (fun j σ H' _ ⟨_, _, h⟩ => h.1) ?_ ?_
    · rintro j y σ H1 H2 hj ⟨y5, rfl, lk⟩ ⟨rfl, kk, v, t, hk, rfl, ht⟩
      obtain ⟨kv, e1, rfl, rfl⟩ := enc_at hk
      have hw := wrd_key ht
      have hm := List.mem_of_getElem? e1
      have wx := c1.wd kv hm
      have rb := lk.rdb ha hb
      refine ⟨_, rfl, _, rfl, b, _, rfl, dget_rd rb hw, _, rfl, ?_⟩
      have et : fm p q (one.take (j + 1)) other = fm p q (one.take j) other + kv.2 * (look other kv.1 * pw p q (fl kv.1)) := by
        unfold fm
        rw [take_snoc e1, I_snoc]
      by_cases c : hasK other kv.1 = true
      · refine iteTe (by rw [if_pos c]; rfl) ?_
        have g1 := dget_in lk.rd hw (List.mem_map.mpr ⟨kv, hm, rfl⟩)
        rw [look_val c1.sum.nd hm] at g1
        have g2 := dget_in rb hw (hasK_iff.mp c)
        have v1 := c1.vl kv hm
        refine ⟨_, rfl, _, rfl, _, rfl, a, _, rfl, g1, _, rfl, _, rfl, b, _, rfl, g2, kv.2, look other kv.1, rfl, rfl, .inl (by omega), ?_⟩
        refine ⟨_, rfl, _, rfl, _, rfl, t, kv.1, n, rfl, hw, wx, hn, fun H3 s3 => ⟨p, q, fl kv.1, rfl, hp, hp1, hq, fl_few wx hn, ?_⟩⟩
        refine ⟨_, pw p q (fl kv.1), rfl, rfl, .inr (pw_small hp hp1 _), _, _, rfl, rfl, some (.ref t), ?_, lk.same s3⟩
        rw [et, Int.mul_assoc]
        rfl
      · refine iteFe (by rw [if_neg c]; rfl) ?_
        refine ⟨some (.ref t), ?_, lk⟩
        rw [et, look_out fun z => c (hasK_iff.mpr z), Int.zero_mul, Int.mul_zero, Int.add_zero]
        rfl
    · rintro σ H1 ⟨y5, rfl, lk⟩
      rw [enc_length, List.take_length]
      exact ⟨lk.1, _, rfl, _, rfl, _, p, rfl, rfl, hp, k _ (lk.off ha)⟩
theorem scForm : FnScope ["prime", "q", "one", "other", "bend"] ["prime", "q", "one", "other"] (defScope (topS 29)) := ⟨rfl, rfl, rfl, by decide +kernel, rfl, by decide +kernel, by decide +kernel⟩
theorem ok_form {f f1 f2 f3 : Addr} {fd fd1 fd2 fd3 : FuncData} (F : Fun K "word_form" "word_form" (topS 29) f fd) (D1 : Dn P w K mg base 3 "need_bend" ["prime", "q"] spBend f1 fd1) (D2 : Dn P w K mg base 4 "need_sum" ["thing"] spNsum f2 fd2)
    (D3 : Dn P w K mg base 2 "word_form_of" ["prime", "q", "one", "other"] spFormOf f3 fd3) : FnOk P w K mg base CX0 5 f fd ["prime", "q", "one", "other"] spForm := by
  refine F.ok scForm (fun vs H Q E h => ?_) (fun cdv A outer s H vs Q E hr h => ?_)
  · obtain ⟨p, q, a, b, one, other, n, rfl, _⟩ := h
    rfl
  · obtain ⟨p, q, a, b, one, other, n, rfl, hp, hq, hqp, ha, hb, c1, c2, hn, l1, l2, k⟩ := h
    have pp := primes_pos hp
    refine ⟨_, pss_cons (ps_set (i := 4) scForm.nd rfl (.inl rfl) (pe_call D1.ok (hr.mono (by decide)) (by rfl) D1.g D1.kp D1.b .nil pass0 (pa_cons (pv 0) (pa_cons (pv 1) pa_nil))))
      (pss_cons (ps_expr (pe_call D2.ok hr (by rfl) D2.g D2.kp D2.b .nil pass0 (pa_cons (pv 2) pa_nil)))
      (pss_cons (ps_expr (pe_call D2.ok hr (by rfl) D2.g D2.kp D2.b .nil pass0 (pa_cons (pv 3) pa_nil)))
      (pss_one (ps_ret (pe_call D3.ok (hr.mono (by decide)) (by rfl) D3.g D3.kp D3.b .nil pass0 (pa_cons (pv 0) (pa_cons (pv 4) (pa_cons (pv 2) (pa_cons (pv 3) pa_nil))))))))), ?_⟩
    refine ⟨_, rfl, _, rfl, p, q, rfl, hp, hq, hqp, ?_⟩
    refine ⟨_, rfl, a, one, n, rfl, ha, c1.sum, hn, l1, fun H1 s1 => ?_⟩
    refine ⟨_, rfl, b, other, n, rfl, s1 _ _ hb, c2.sum, hn, l2, fun H2 s2 => ?_⟩
    have s12 := s1.trans s2
    exact ⟨_, rfl, _, rfl, _, rfl, _, rfl, p, q, a, b, one, other, n, rfl, by omega, by omega, by omega, s12 _ _ ha, s12 _ _ hb, c1, c2, hn, fun H' s3 => k H' (s12.trans s3)⟩
end
end K9

set_option Elab.async false
set_option linter.all false
set_option maxRecDepth 100000
set_option maxHeartbeats 1000000
/-! the law's draws: begun, mixed, take, pick, bend -/
namespace K9
open PySem PySem.Spec PyProof.Rows L2
/-- the state of the draws -/
def dk (l c : Addr) (r t : Int) : List (L2.Key × V) := [(.inr "large", .ref l), (.inr "rest", .int r), (.inr "cells", .ref c), (.inr "turn", .int t)]
structure DrawAt (H : Hp) (d l c : Addr) : Prop where
  ne : l ≠ c
  st : ∃ r t : Int, H d = some (.dK (dk l c r t))
  lg : ∃ ns : List Int, H l = some (.lst (ns.map V.int)) ∧ ns.length ≤ 63
  cl : ∃ ns : List Int, H c = some (.lst (ns.map V.int)) ∧ ns.length ≤ 63
/-- all but the draws' own stands -/
def Keep (d l : Addr) (H H' : Hp) : Prop := ∀ b o, H b = some o → b ≠ d → b ≠ l → H' b = some o
theorem Keep.refl (d l : Addr) (H : Hp) : Keep d l H H := fun _ _ e _ _ => e
theorem Keep.trans {d l : Addr} {H H1 H2 : Hp} (a : Keep d l H H1) (b : Keep d l H1 H2) : Keep d l H H2 := fun c o e h1 h2 => b c o (a c o e h1 h2) h1 h2
theorem Keep.of {d l : Addr} {H H' : Hp} (s : Same H H') : Keep d l H H' := fun b o e _ _ => s b o e
theorem Keep.at_d {d l : Addr} (H : Hp) (o : HO) : Keep d l H (L2.upd H d o) := fun b u e h1 _ => by
  rw [upd_ne h1]
  exact e
theorem Keep.at_l {d l : Addr} (H : Hp) (o : HO) : Keep d l H (L2.upd H l o) := fun b u e _ h2 => by
  rw [upd_ne h2]
  exact e
theorem DrawAt.same {H H' : Hp} {d l c : Addr} (D : DrawAt H d l c) (s : Same H H') : DrawAt H' d l c := by
  obtain ⟨ne, ⟨r, t, h1⟩, ⟨ns, h2, z2⟩, ⟨ms, h3, z3⟩⟩ := D
  exact ⟨ne, ⟨r, t, s _ _ h1⟩, ⟨ns, s _ _ h2, z2⟩, ⟨ms, s _ _ h3, z3⟩⟩
theorem DrawAt.free {H : Hp} {d l c p : Addr} (D : DrawAt H d l c) (h : H p = none) : p ≠ d ∧ p ≠ l := by
  obtain ⟨ne, ⟨r, t, h1⟩, ⟨ns, h2, z2⟩, _⟩ := D
  exact ⟨fun z => (by rw [z, h1] at h; cases h), fun z => (by rw [z, h2] at h; cases h)⟩
theorem DrawAt.put {H : Hp} {d l c : Addr} {r t : Int} (D : DrawAt H d l c) : DrawAt (L2.upd H d (.dK (dk l c r t))) d l c := by
  obtain ⟨ne, ⟨r0, t0, h1⟩, ⟨ns, h2, z2⟩, ⟨ms, h3, z3⟩⟩ := D
  have n1 : l ≠ d := fun z => by rw [z, h1] at h2; cases h2
  have n2 : c ≠ d := fun z => by rw [z, h1] at h3; cases h3
  exact ⟨ne, ⟨r, t, upd_same⟩, ⟨ns, by rw [upd_ne n1]; exact h2, z2⟩, ⟨ms, by rw [upd_ne n2]; exact h3, z3⟩⟩
theorem DrawAt.putL {H : Hp} {d l c : Addr} {ns : List Int} (D : DrawAt H d l c) (hz : ns.length ≤ 63) : DrawAt (L2.upd H l (.lst (ns.map V.int))) d l c := by
  obtain ⟨ne, ⟨r0, t0, h1⟩, ⟨ns0, h2, z2⟩, ⟨ms, h3, z3⟩⟩ := D
  have n1 : d ≠ l := fun z => by rw [← z, h1] at h2; cases h2
  exact ⟨ne, ⟨r0, t0, by rw [upd_ne n1]; exact h1⟩, ⟨ns, upd_same, hz⟩, ⟨ms, by rw [upd_ne (Ne.symm ne)]; exact h3, z3⟩⟩
/-- a tracked thing of a new address is none of the draws' -/
theorem Keep.new {d l c : Addr} {H H' : Hp} {b : Addr} {o : HO} (k : Keep d l H H') (D : DrawAt H d l c) (hb : H b = some o) (n1 : ∀ kvs, o ≠ .dK kvs) (n2 : b ≠ l) : H' b = some o := by
  obtain ⟨r, t, h1⟩ := D.st
  exact k b o hb (fun z => by rw [z, h1] at hb; exact n1 _ (Option.some.inj hb).symm) n2
section
variable {P : Program} {w : World} {K : PySem.W.Frag} {mg : Str → Option Value} {base : Heap}
/-! ### _law_mixed -/
theorem scMixed : FnScope ["_law_draw", "_law_turn", "_law_found", "_law_great", "_law_blend", "_law_grain"] ["_law_draw"] (defScope (topS 32)) := ⟨rfl, rfl, rfl, by decide +kernel, rfl, by decide +kernel, by decide +kernel⟩
def spMixed : Sp := fun vs H Q _ => ∃ (d l c : Addr), vs = [.ref d] ∧ DrawAt H d l c ∧ ∀ (H' : Hp) (v : Int), Keep d l H H' → DrawAt H' d l c → Q (.int v) H'
theorem ok_mixed {f : Addr} {fd : FuncData} (F : Fun K "_law_mixed" "_law_mixed" (topS 32) f fd) (B : Bl mg) : FnOk P w K mg base CX0 1 f fd ["_law_draw"] spMixed := by
  refine F.ok scMixed (fun vs H Q E h => ?_) (fun cdv A outer s H vs Q E hr h => ?_)
  · obtain ⟨d, l, c, rfl, _⟩ := h
    rfl
  · obtain ⟨d, l, c, rfl, D, k⟩ := h
    have hu := hu_of hr
    refine ⟨_, pss_cons (ps_dput hu (pv 0) pe_str (pe_op op_add (pe_dget hu (pv 0) pe_str (fun _ _ => rfl)) pe_int) rfl)
      (pss_cons (ps_par (i := 1) (j := 2) rfl scMixed.nd rfl rfl (by decide) rfl rfl (pa_cons (pe_callTy call_int1 (by rfl) B.int boot_int (pa_cons (pe_dget hu (pv 0) pe_str (fun _ _ => rfl)) pa_nil)) (pa_cons pe_int pa_nil)) (by rfl))
      (pss_cons (ps_for PassesOwn.never rfl (pi_list (pe_lst (pa_cons pe_int (pa_cons pe_int (pa_cons pe_int pa_nil))))) (pg_name (i := 3) scMixed.nd rfl (Or.inl rfl))
        (pss_cons (ps_set (i := 4) scMixed.nd rfl (.inl rfl) (pe_op op_mod (pe_op op_add (pe_op op_mul (pv 1) pe_int) (pe_op op_fdiv (pv 3) pe_int)) (pv 3)))
        (pss_cons (ps_for PassesOwn.never rfl (pi_list (pe_dget hu (pv 0) pe_str (fun _ _ => rfl))) (pg_name (i := 5) scMixed.nd rfl (Or.inl rfl))
          (pss_one (ps_set (i := 4) scMixed.nd rfl (.inl rfl) (pe_op op_mod (pe_op op_add (pe_op op_mul (pv 4) pe_int) (pe_callTy call_int1 (by rfl) B.int boot_int (pa_cons (pv 5) pa_nil))) (pv 3)))))
        (pss_one (ps_set (i := 2) scMixed.nd rfl (.inl rfl) (pe_op op_add (pe_op op_mul (pv 2) pe_int) (pe_op op_mod (pe_op op_pow (pv 4) pe_int) (pv 3))))))))
      (pss_one (ps_ret (pv 2))))), ?_⟩
    obtain ⟨ne, ⟨r, t, h1⟩, lg, cl⟩ := id D
    refine ⟨_, rfl, d, _, rfl, DGet.k (k := .inr "turn") h1, t, 1, rfl, rfl, _, rfl, d, _, rfl, DPut.k (k := .inr "turn") h1 (small1000 (show 4 ≤ 1000 by decide)), ?_⟩
    have D1 : DrawAt (upd H d (.dK (dk l c r (t + 1)))) d l c := D.put
    have k1 : Keep d l H (upd H d (.dK (dk l c r (t + 1)))) := Keep.at_d H _
    have e1 : upd H d (.dK (putK (dk l c r t) (.inr "turn") (.int (t + 1)))) = upd H d (.dK (dk l c r (t + 1))) := rfl
    have g1 : upd H d (.dK (dk l c r (t + 1))) d = some (.dK (dk l c r (t + 1))) := upd_same
    rw [e1]
    generalize upd H d (.dK (dk l c r (t + 1))) = H1 at D1 k1 g1 ⊢
    refine ⟨_, rfl, d, _, rfl, DGet.k (k := .inr "turn") g1, .inl ⟨t + 1, rfl, ?_⟩⟩
    refine ⟨_, _, rfl, by show 3 ≤ sizeLine; decide, fun p hp => ?_⟩
    have s2 : Same H1 (upd H1 p (.lst [V.int 2147483629, V.int 2147483587, V.int 2147483579])) := same_new hp
    have D2 := D1.same s2
    have g2 := s2 _ _ g1
    have k2 := k1.trans (Keep.of s2)
    have hl : upd H1 p (.lst [V.int 2147483629, V.int 2147483587, V.int 2147483579]) p = some (.lst (([2147483629, 2147483587, 2147483579] : List Int).map V.int)) := upd_same
    generalize upd H1 p (.lst [V.int 2147483629, V.int 2147483587, V.int 2147483579]) = H2 at D2 g2 k2 hl ⊢
    refine ⟨p, rfl, ⟨_, .inl (.inl hl)⟩, ?_⟩
    refine for_it (walk_list (K := K) (a := p) (xs := ([2147483629, 2147483587, 2147483579] : List Int).map V.int)) (fun j σ G => ∃ (y3 y4 y5 : Option V) (v : Int), σ = [some (.ref d), some (.int (t + 1)), some (.int v), y3, y4, y5] ∧ G = H2) ⟨none, none, none, 0, rfl, rfl⟩
      (fun j σ G _ ⟨_, _, _, _, _, e⟩ => by rw [e]; exact .inl (.inl hl)) ?_ ?_
    · rintro j y σ G1 G2 hj ⟨y3, y4, y5, v, rfl, rfl⟩ ⟨rfl, hy⟩
      obtain ⟨g, rfl, hg⟩ := int_at hy
      have bg : 2147483579 ≤ g ∧ g ≤ 2147483629 := by
        have m := List.mem_of_getElem? hg
        rcases List.mem_cons.mp m with e | m
        · omega
        · rcases List.mem_cons.mp m with e | m
          · omega
          · have e := List.mem_singleton.mp m
            omega
      obtain ⟨cs, hc, zc⟩ := D2.cl
      refine ⟨_, rfl, t + 1, 69621, rfl, rfl, .inr (by decide), _, rfl, g, 7, rfl, rfl, ⟨by decide, by decide⟩, _, _, rfl, rfl, _, rfl, _, g, rfl, rfl, by omega, ?_⟩
      refine ⟨_, rfl, d, _, rfl, DGet.k (k := .inr "cells") g2, c, rfl, ⟨_, .inl (.inl hc)⟩, ?_⟩
      refine for_it (walk_list (K := K) (a := c) (xs := cs.map V.int)) (fun i σ G => ∃ (b : Int) (y5 : Option V), σ = [some (.ref d), some (.int (t + 1)), some (.int v), some (.int g), some (.int b), y5] ∧ 0 ≤ b ∧ b < g ∧ G = G2) ⟨_, y5, rfl, Int.emod_nonneg _ (by omega), Int.emod_lt_of_pos _ (by omega), rfl⟩
        (fun i σ G _ ⟨_, _, _, _, _, e⟩ => by rw [e]; exact .inl (.inl hc)) ?_ ?_
      · rintro i y σ G3 G4 hi ⟨b, y5, rfl, b0, b1, rfl⟩ ⟨rfl, hy2⟩
        obtain ⟨x, rfl, hx⟩ := int_at hy2
        refine ⟨_, rfl, b, 48271, rfl, rfl, .inr (by decide), _, rfl, .inl ⟨x, rfl, _, x, rfl, rfl, _, rfl, _, g, rfl, rfl, by omega, ?_⟩⟩
        exact ⟨_, _, rfl, Int.emod_nonneg _ (by omega), Int.emod_lt_of_pos _ (by omega), rfl⟩
      · rintro σ G3 ⟨b, y5, rfl, b0, b1, rfl⟩
        refine ⟨_, rfl, v, 2147483647, rfl, rfl, .inr (by decide), _, rfl, b, 5, rfl, rfl, ⟨by decide, by decide, by omega⟩, _, rfl, _, g, rfl, rfl, by omega, _, _, rfl, rfl, ?_⟩
        exact ⟨_, _, _, _, rfl, rfl⟩
    · rintro σ G1 ⟨y3, y4, y5, v, rfl, rfl⟩
      exact ⟨_, rfl, k _ v k2 D2⟩
/-! ### _law_take -/
theorem scTake : FnScope ["_law_draw", "_law_amount", "_law_found"] ["_law_draw", "_law_amount"] (defScope (topS 33)) := ⟨rfl, rfl, rfl, by decide +kernel, rfl, by decide +kernel, by decide +kernel⟩
def spTake : Sp := fun vs H Q _ => ∃ (d l c : Addr) (m : Int), vs = [.ref d, .int m] ∧ DrawAt H d l c ∧ 0 < m ∧ m < 1073741824 ∧ ∀ (H' : Hp) (v : Int), Keep d l H H' → DrawAt H' d l c → 0 ≤ v → v < m → Q (.int v) H'
theorem dp_ints {H : Hp} : ∀ ns : List Int, DpAll K H (ns.map V.int) (ns.map PyData.int)
  | [] => .nil
  | x :: r => .cons (.int x) (dp_ints r)
theorem ok_take {f f1 : Addr} {fd fd1 : FuncData} (F : Fun K "_law_take" "_law_take" (topS 33) f fd) (B : Bl mg) (D1 : Dn P w K mg base 1 "_law_mixed" ["_law_draw"] spMixed f1 fd1) : FnOk P w K mg base CX0 2 f fd ["_law_draw", "_law_amount"] spTake := by
  refine F.ok scTake (fun vs H Q E h => ?_) (fun cdv A outer s H vs Q E hr h => ?_)
  · obtain ⟨d, l, c, m, rfl, _⟩ := h
    rfl
  · obtain ⟨d, l, c, m, rfl, D, m0, m1, k⟩ := h
    have hu := hu_of hr
    have hu6 := hr.units
    refine ⟨_, C8.pss_cut (ps_if (pt_cmpR op_eq (pe_dget hu (pv 0) pe_str (fun _ _ => rfl)) pe_int (nomark _))
        (pss_one (ps_dput hu (pv 0) pe_str (pe_ifExp (pt_cmpR (L2.op_neD hu6) (pe_dget hu (pv 0) pe_str (fun _ _ => rfl)) (pe_lst pa_nil) (nomark _))
          (pe_bm PySem.F.plainAttrs_list PySem.F.slot_list_pop PySem.F.type_list_pop mt_popAt (pe_dget hu (pv 0) pe_str (fun _ _ => rfl)) (pa_cons pe_int pa_nil))
          (pe_call D1.ok hr (by rfl) D1.g D1.kp D1.b .nil pass0 (pa_cons (pv 0) pa_nil))) rfl)) pss_nil)
      (pss_cons (ps_set (i := 2) scTake.nd rfl (.inl rfl) (pe_op op_mod (pe_callTy call_int1 (by rfl) B.int boot_int (pa_cons (pe_dget hu (pv 0) pe_str (fun _ _ => rfl)) pa_nil)) (pv 1)))
      (pss_cons (ps_dput hu (pv 0) pe_str (pe_op op_fdiv (pe_callTy call_int1 (by rfl) B.int boot_int (pa_cons (pe_dget hu (pv 0) pe_str (fun _ _ => rfl)) pa_nil)) (pv 1)) rfl)
      (pss_one (ps_ret (pv 2))))), ?_⟩
    obtain ⟨ne, ⟨r, t, h1⟩, ⟨ns, hl, zl⟩, cl⟩ := id D
    have sz : ∀ (l c : Addr) (r t : Int), (dk l c r t).length < sizeLine := fun _ _ _ _ => small1000 (show 4 ≤ 1000 by decide)
    refine ⟨fun σ' H1 => σ' = [some (.ref d), some (.int m), none] ∧ Keep d l H H1 ∧ DrawAt H1 d l c, ?_, ?_⟩
    · refine ⟨_, rfl, d, _, rfl, DGet.k (k := .inr "rest") h1, rfl, _, rfl, ite2 (fun _ => ?_) (fun _ => ?_)⟩
      · refine ⟨_, rfl, d, _, rfl, DGet.k (k := .inr "large") h1, Nat.zero_le _, fun p hp => ?_⟩
        have s1 : Same H (upd H p (.lst [])) := same_new hp
        have D2 := D.same s1
        have hl1 := s1 _ _ hl
        have hd1 := s1 _ _ h1
        have k1 := Keep.of (d := d) (l := l) s1
        have hp1 : upd H p (.lst []) p = some (.lst []) := upd_same
        generalize upd H p (.lst []) = G at D2 hl1 hd1 k1 hp1 ⊢
        refine ⟨.list (ns.map PyData.int), .list [], .lst (.inl (.inl hl1)) (dp_ints ns), .lst (.inl (.inl hp1)) .nil, PySem.W.shaped_ints ns, PySem.W.shaped_ints [], _, rfl, ?_⟩
        cases ns with
        | nil =>
          refine iteF ?_
          refine ⟨_, rfl, d, l, c, rfl, D2, fun H3 v k3 D3 => ?_⟩
          obtain ⟨r3, t3, h3⟩ := D3.st
          refine ⟨_, rfl, d, _, rfl, DPut.k (k := .inr "rest") h3 (sz _ _ _ _), rfl, (k1.trans k3).trans (Keep.at_d H3 _), ?_⟩
          exact D3.put
        | cons x ns =>
          refine iteT ?_
          have zn : ns.length ≤ 63 := by
            rw [List.length_cons] at zl
            omega
          have D3 : DrawAt (upd G l (.lst (ns.map V.int))) d l c := D2.putL zn
          obtain ⟨r3, t3, h3⟩ := D3.st
          refine ⟨_, rfl, d, _, rfl, DGet.k (k := .inr "large") hd1, .inl ⟨rfl, _, .inl (.inl hl1)⟩, l, _, 0, 0, V.int x, rfl, rfl, hl1, by decide, by decide, ?_, rfl, ?_⟩
          · rw [List.length_map, List.length_cons]
            unfold seqIndex?
            simp
          · refine ⟨_, rfl, d, _, rfl, DPut.k (k := .inr "rest") h3 (sz _ _ _ _), rfl, (k1.trans (Keep.at_l G _)).trans (Keep.at_d _ _), ?_⟩
            exact D3.put
      · exact ⟨rfl, Keep.refl d l H, D⟩
    · rintro σ' H1 ⟨rfl, k1, D1'⟩
      obtain ⟨r1, t1, g1⟩ := D1'.st
      refine ⟨_, rfl, d, _, rfl, DGet.k (k := .inr "rest") g1, .inl ⟨r1, rfl, _, rfl, r1, m, rfl, rfl, m0, ?_⟩⟩
      refine ⟨_, rfl, d, _, rfl, DGet.k (k := .inr "rest") g1, .inl ⟨r1, rfl, _, rfl, r1, m, rfl, rfl, ⟨m0, m1⟩, _, rfl, d, _, rfl, DPut.k (k := .inr "rest") g1 (sz _ _ _ _), ?_⟩⟩
      exact ⟨_, rfl, k _ _ (k1.trans (Keep.at_d H1 _)) D1'.put (Int.emod_nonneg _ (by omega)) (Int.emod_lt_of_pos _ m0)⟩
/-! ### _law_pick -/
theorem scPick : FnScope ["_law_draw", "_law_some"] ["_law_draw", "_law_some"] (defScope (topS 34)) := ⟨rfl, rfl, rfl, by decide +kernel, rfl, by decide +kernel, by decide +kernel⟩
def spPick : Sp := fun vs H Q _ => ∃ (d l c a : Addr) (ns : List Int), vs = [.ref d, .ref a] ∧ DrawAt H d l c ∧ H a = some (.lst (ns.map V.int)) ∧ a ≠ l ∧ 0 < ns.length ∧ ns.length ≤ 1000 ∧ ∀ (H' : Hp) (v : Int), Keep d l H H' → DrawAt H' d l c → v ∈ ns → Q (.int v) H'
theorem ok_pick {f f1 : Addr} {fd fd1 : FuncData} (F : Fun K "_law_pick" "_law_pick" (topS 34) f fd) (B : Bl mg) (D1 : Dn P w K mg base 2 "_law_take" ["_law_draw", "_law_amount"] spTake f1 fd1) : FnOk P w K mg base CX0 3 f fd ["_law_draw", "_law_some"] spPick := by
  refine F.ok scPick (fun vs H Q E h => ?_) (fun cdv A outer s H vs Q E hr h => ?_)
  · obtain ⟨d, l, c, a, ns, rfl, _⟩ := h
    rfl
  · obtain ⟨d, l, c, a, ns, rfl, D, ha, na, n0, n1, k⟩ := h
    refine ⟨_, pss_one (ps_ret (pe_ix ix_list (pv 1) (pe_call D1.ok hr (by rfl) D1.g D1.kp D1.b .nil pass0 (pa_cons (pv 0) (pa_cons (pe_callB (cr_len (K := K) rfl) (by rfl) B.len PySem.boot_len (pa_cons (pv 1) pa_nil)) pa_nil))) (fun _ _ => rfl))), ?_⟩
    refine ⟨_, rfl, _, rfl, _, rfl, a, _, rfl, .inl (.inl (.inl ha)), d, l, c, _, rfl, D, ?_, ?_, fun H1 v k1 D2 v0 v1 => ?_⟩
    · rw [List.length_map]
      omega
    · rw [List.length_map]
      omega
    · rw [List.length_map] at v1
      have ha1 := k1.new D ha (fun _ z => nomatch z) na
      have hv : v.toNat < ns.length := by omega
      have ev : v = ((v.toNat : Nat) : Int) := by omega
      refine ⟨a, _, v, V.int ns[v.toNat], rfl, rfl, .inl (.inl ha1), at_of ev ?_, k H1 _ k1 D2 (List.getElem_mem hv)⟩
      rw [List.getElem?_map, List.getElem?_eq_getElem hv]
      rfl
/-! ### _law_bend -/
theorem scBd : FnScope ["_law_draw", "_law_field"] ["_law_draw"] (defScope (topS 35)) := ⟨rfl, rfl, rfl, by decide +kernel, rfl, by decide +kernel, by decide +kernel⟩
def spBd : Sp := fun vs H Q _ => ∃ (d l c : Addr), vs = [.ref d] ∧ DrawAt H d l c ∧ ∀ (H' : Hp) (r : Addr) (p q : Int), Keep d l H H' → DrawAt H' d l c → H' r = some (.tup [.int p, .int q]) → p ∈ primes → 0 < q → q < p → Q (.ref r) H'
theorem ok_bd {f f1 f2 : Addr} {fd fd1 fd2 : FuncData} (F : Fun K "_law_bend" "_law_bend" (topS 35) f fd) (D1 : Dn P w K mg base 2 "_law_take" ["_law_draw", "_law_amount"] spTake f1 fd1) (D2 : Dn P w K mg base 3 "_law_pick" ["_law_draw", "_law_some"] spPick f2 fd2) :
    FnOk P w K mg base CX0 4 f fd ["_law_draw"] spBd := by
  refine F.ok scBd (fun vs H Q E h => ?_) (fun cdv A outer s H vs Q E hr h => ?_)
  · obtain ⟨d, l, c, rfl, _⟩ := h
    rfl
  · obtain ⟨d, l, c, rfl, D, k⟩ := h
    refine ⟨_, pss_cons (ps_set (i := 1) scBd.nd rfl (.inl rfl) (pe_call D2.ok hr (by rfl) D2.g D2.kp D2.b .nil pass0 (pa_cons (pv 0) (pa_cons (pe_lst (pa_cons pe_int (pa_cons pe_int (pa_cons pe_int (pa_cons pe_int (pa_cons pe_int (pa_cons pe_int (pa_cons pe_int (pa_cons pe_int (pa_cons pe_int (pa_cons pe_int (pa_cons pe_int (pa_cons pe_int pa_nil))))))))))))) pa_nil))))
      (pss_one (ps_ret (pe_tup (pa_cons (pv 1) (pa_cons (pe_op op_add pe_int (pe_call D1.ok (hr.mono (by decide)) (by rfl) D1.g D1.kp D1.b .nil pass0 (pa_cons (pv 0) (pa_cons (pe_op op_sub (pv 1) pe_int) pa_nil)))) pa_nil))))), ?_⟩
    refine ⟨_, rfl, by show 12 ≤ sizeLine; decide, fun a ha => ?_⟩
    obtain ⟨nd, nl⟩ := D.free ha
    have s1 : Same H (upd H a (.lst (([2, 3, 5, 5, 7, 7, 7, 11, 13, 13, 31, 97] : List Int).map V.int))) := same_new ha
    refine ⟨d, l, c, a, [2, 3, 5, 5, 7, 7, 7, 11, 13, 13, 31, 97], rfl, D.same s1, upd_same, nl, by decide, by decide, fun H1 p k1 D3 hp => ?_⟩
    have all : ∀ p : Int, p ∈ [2, 3, 5, 5, 7, 7, 7, 11, 13, 13, 31, 97] → p ∈ primes := by decide
    have pp : p ∈ primes := all p hp
    have pz := primes_pos pp
    refine ⟨_, rfl, _, rfl, _, rfl, p, 1, rfl, rfl, d, l, c, p - 1, rfl, D3, by omega, by omega, fun H2 v k2 D4 v0 v1 => ⟨1, v, rfl, rfl, by show 2 ≤ sizeLine; decide, fun r hr2 => ?_⟩⟩
    have s2 := same_new (o := .tup [V.int p, V.int (1 + v)]) hr2
    exact k _ r p (1 + v) ((((Keep.of s1).trans k1).trans k2).trans (Keep.of s2)) (D4.same s2) upd_same pp (by omega) (by omega)
end
end K9

set_option Elab.async false
set_option linter.all false
set_option maxRecDepth 100000
set_option maxHeartbeats 1000000
/-! the law's own trim and power -/
namespace K9
open PySem PySem.Spec PyProof.Rows L2
section
variable {P : Program} {w : World} {K : PySem.W.Frag} {mg : Str → Option Value} {base : Heap}
theorem scTrim : FnScope ["_law_field", "_law_some", "_law_key"] ["_law_field", "_law_some"] (defScope (topS 37)) := ⟨rfl, rfl, rfl, by decide +kernel, rfl, by decide +kernel, by decide +kernel⟩
theorem ok_trim {f : Addr} {fd : FuncData} (F : Fun K "_law_trim" "_law_trim" (topS 37) f fd) (B : Bl mg) : FnOk P w K mg base CX0 1 f fd ["_law_field", "_law_some"] spPlain := by
  refine F.ok scTrim (fun vs H Q E h => ?_) (fun cdv A outer s H vs Q E hr h => ?_)
  · obtain ⟨p, a, d, n, rfl, _⟩ := h
    rfl
  · obtain ⟨p, a, d, n, rfl, hp, ha, hs, hn, h64, q⟩ := h
    have hu := hu_of hr
    have hu6 := hr.units
    refine ⟨_, pss_one (ps_ret (pe_callTy (cr_dictD rfl hu6) (by rfl) B.dict (by decide +kernel) (pa_cons (pe_lc (own := [("_law_key", 2)]) (g := gName 2) rfl scTrim.nd
      (pi_list (pe_callB (cr_sortD (n := n) (B := 17) rfl hn) (by rfl) B.sorted (by decide +kernel) (pa_cons (pv 1) pa_nil))) (blkOk_by (N := ["_law_field", "_law_some", "_law_key"]) (sc := defScope (topS 37)) (by decide +kernel))
      (fun _ _ _ _ _ => pg_name (i := 2) scTrim.nd rfl (Or.inl rfl)) (fun _ _ _ _ _ => pts_one (pt_cmpR op_ne (pe_op op_mod (pe_dget hu (pv 1) (pv 2) (fun _ _ => rfl)) (pv 0)) pe_int (nomark _)))
      (fun _ _ _ _ _ => pe_tup (pa_cons (pv 2) (pa_cons (pe_op op_mod (pe_dget hu (pv 1) (pv 2) (fun _ _ => rfl)) (pv 0)) pa_nil)))) pa_nil))), ?_⟩
    refine ⟨_, rfl, a, d, rfl, ha, h64, (fun kv hm => ⟨(hs.wd kv hm).1, wrd_bd (hs.wd kv hm)⟩), fun L l hL hpm hup hl => ?_⟩
    have sl : Same H (upd H l (.lst (L.map fun x => V.ref x.1))) := same_new hl
    refine ⟨l, rfl, ⟨_, .inl (.inl upd_same)⟩, fun D hD => ?_⟩
    have hD0 : H D = none := sl.free hD
    have neD : D ≠ l := fun z => by rw [z, upd_same] at hD; cases hD
    have mem : ∀ x ∈ L, x.2 ∈ keys d := fun x hx => hpm.mem_iff.mp (List.mem_map.mpr ⟨x, hx, rfl⟩)
    refine lc_it (walk_list (K := K) (a := l) (xs := L.map fun x => V.ref x.1)) (fun i H' => Same H H' ∧ H' l = some (.lst (L.map fun x => V.ref x.1)) ∧ ∃ ps : List Addr, H' D = some (.lst (ps.map V.ref)) ∧ ps.length ≤ i ∧ Paired (PairW H') ps (tidy p d ((L.take i).map (·.2))))
      ⟨sl.trans (same_new hD), by rw [upd_ne (Ne.symm neD)]; exact upd_same, [], upd_same, Nat.le_refl _, .nil⟩ (fun i H' _ h => .inl (.inl h.2.1)) ?_ ?_
    · rintro i y H1 H2 hi ⟨h1, h2, ps, h3, h4, h5⟩ ⟨rfl, hy⟩
      obtain ⟨x, ex, ey⟩ : ∃ x, L[i]? = some x ∧ y = V.ref x.1 := by
        rw [List.getElem?_map] at hy
        cases e : L[i]? with
        | none => rw [e] at hy; cases hy
        | some x => rw [e] at hy; exact ⟨x, rfl, (Option.some.inj hy).symm⟩
      subst ey
      have hx := List.mem_of_getElem? ex
      have hw : WrdAt H2 x.1 x.2 := h1 _ _ (hL x hx)
      have hg := dget_in (same_rd h1 ha) hw (mem x hx)
      have hi6 : i < 64 := by
        rw [List.length_map] at hi
        have z := hpm.length_eq
        rw [List.length_map] at z
        unfold keys at z
        rw [List.length_map] at z
        omega
      have et : (L.take (i + 1)).map (·.2) = (L.take i).map (·.2) ++ [x.2] := by
        rw [List.take_add_one, ex, List.map_append]
        rfl
      refine ⟨rfl, ?_⟩
      refine ⟨_, rfl, _, rfl, a, _, rfl, hg, _, rfl, look d x.2, p, rfl, rfl, hp, rfl, _, rfl, ?_⟩
      by_cases e0 : look d x.2 % p = 0
      · refine iteFe (by rw [decide_eq_true (show V.int (look d x.2 % p) = V.int 0 by rw [e0])]; rfl) ?_
        refine ⟨h1, h2, ps, h3, by omega, ?_⟩
        rw [et, tidy_snoc, if_pos e0]
        exact h5
      · refine iteTe (by rw [decide_eq_false (show ¬ V.int (look d x.2 % p) = V.int 0 from fun z => e0 (by injection z))]; rfl) ?_
        refine ⟨_, rfl, _, rfl, _, rfl, a, _, rfl, hg, _, rfl, look d x.2, p, rfl, rfl, hp, by show 2 ≤ sizeLine; decide, fun T hT => ?_⟩
        have neT : D ≠ T := ne_of_none h3 hT
        have nel : l ≠ T := ne_of_none h2 hT
        refine ⟨ps.map V.ref, by rw [upd_ne neT]; exact h3, by rw [List.length_map]; exact small1000 (by omega), fun c o e => ?_, ?_, ps ++ [T], ?_, ?_, ?_⟩
        · have nc : c ≠ D := ne_of_none e hD0
          rw [upd_ne nc]
          exact same_new hT _ _ (h1 _ _ e)
        · rw [upd_ne (Ne.symm neD), upd_ne nel]
          exact h2
        · rw [upd_same, List.map_append]
          rfl
        · rw [List.length_append]
          show ps.length + 1 ≤ i + 1
          omega
        · rw [et, tidy_snoc, if_neg e0]
          have h3' : upd H2 T (.tup [V.ref x.1, V.int (look d x.2 % p)]) D = some (.lst (ps.map V.ref)) := by
            rw [upd_ne neT]
            exact h3
          have k1 : Tups H2 (upd H2 T (.tup [V.ref x.1, V.int (look d x.2 % p)])) := tups_same (same_new hT)
          have k2 := tups_lst (o := .lst (ps.map V.ref ++ [V.ref T])) h3'
          exact pairs_snoc ⟨x.1, k2 _ _ (k1 _ _ hw), k2 _ _ upd_same⟩ (pairs_tups (k1.trans k2) h5)
    · rintro H1 ⟨h1, h2, ps, h3, h4, h5⟩
      rw [List.length_map, List.take_length] at h5
      have nd : (L.map (·.2)).Nodup := hpm.nodup_iff.mpr hs.nd
      have wl : ∀ y ∈ L.map (·.2), Wrd n y := fun y hy => by
        obtain ⟨kv, hm, e⟩ := List.mem_map.mp (hpm.mem_iff.mp hy)
        rw [← e]
        exact hs.wd kv hm
      have up : (L.map (·.2)).Pairwise fun a b => cd a < cd b := strict cd_inj wl nd (by rw [List.pairwise_map]; exact hup)
      obtain ⟨c1, c2, c3⟩ := tidy_ok hp hs hpm up
      refine ⟨D, ps, _, rfl, .inl (.inl h3), h5, c1.sum.nd, fun r hr' => ?_⟩
      have s2 : Same H1 (upd H1 r (.dT (enc (tidy p d (L.map (·.2)))))) := same_new hr'
      exact q _ r _ (h1.trans s2) (h1.free hr') upd_same c1 c2 c3
theorem scLpow : FnScope ["_law_field", "_law_number", "_law_times_here", "_law_found", "_law_lap"] ["_law_field", "_law_number", "_law_times_here"] (defScope (topS 36)) := ⟨rfl, rfl, rfl, by decide +kernel, rfl, by decide +kernel, by decide +kernel⟩
theorem ok_lpow {f : Addr} {fd : FuncData} (F : Fun K "_law_power" "_law_power" (topS 36) f fd) (B : Bl mg) : FnOk P w K mg base CX0 1 f fd ["_law_field", "_law_number", "_law_times_here"] spPow := by
  refine F.ok scLpow (fun vs H Q E h => ?_) (fun cdv A outer s H vs Q E hr h => ?_)
  · obtain ⟨p, q, m, rfl, _⟩ := h
    rfl
  · obtain ⟨p, q, m, rfl, hp, hp1, hq, hm, k⟩ := h
    refine ⟨_, pss_cons (ps_set (i := 3) scLpow.nd rfl (.inl rfl) pe_int)
      (pss_cons (ps_for PassesOwn.never rfl (pi_range1 (by rfl) B.range (pa_cons (pv 2) pa_nil)) (pg_name (i := 4) scLpow.nd rfl (Or.inl rfl))
        (pss_one (ps_set (i := 3) scLpow.nd rfl (.inl rfl) (pe_op op_mod (pe_op op_mul (pv 3) (pv 1)) (pv 0)))))
      (pss_one (ps_ret (pv 3)))), ?_⟩
    refine ⟨_, rfl, (m : Int), rfl, by omega, by omega, ?_⟩
    have em : (m : Int).toNat = m := Int.toNat_natCast m
    refine for_it (walk_range (lo := 0) (n := (m : Int).toNat)) (fun j σ H' => ∃ y4 : Option V, σ = [some (.int p), some (.int q), some (.int (m : Int)), some (.int (pw p q j)), y4] ∧ H' = H) ⟨none, rfl, rfl⟩ (fun j σ H' _ _ => True.intro) ?_ ?_
    · rintro j y σ H1 H2 hj ⟨y4, rfl, rfl⟩ ⟨rfl, rfl⟩
      refine ⟨_, rfl, _, rfl, pw p q j, q, rfl, rfl, .inr (by omega), _, rfl, _, p, rfl, rfl, hp, ?_⟩
      exact ⟨_, rfl, rfl⟩
    · rintro σ H1 ⟨y4, rfl, rfl⟩
      rw [em]
      exact ⟨_, rfl, k⟩
end
end K9

set_option Elab.async false
set_option linter.all false
set_option maxRecDepth 100000
set_option maxHeartbeats 1000000
/-! the law's own falls and form -/
namespace K9
open PySem PySem.Spec PyProof.Rows L2
section
variable {P : Program} {w : World} {K : PySem.W.Frag} {mg : Str → Option Value} {base : Heap}
theorem scLf : FnScope ["_law_word", "_law_k", "_law_j"] ["_law_word"] (defScope (topS 38)) := ⟨rfl, rfl, rfl, by decide +kernel, rfl, by decide +kernel, by decide +kernel⟩
theorem ok_lfalls {f : Addr} {fd : FuncData} (F : Fun K "_law_falls" "_law_falls" (topS 38) f fd) (B : Bl mg) : FnOk P w K mg base CX0 1 f fd ["_law_word"] spFalls := by
  refine F.ok scLf (fun vs H Q E h => ?_) (fun cdv A outer s H vs Q E hr h => ?_)
  · obtain ⟨b, x, n, rfl, _⟩ := h
    rfl
  · obtain ⟨b, x, n, rfl, hb, hx, hn, q⟩ := h
    have hT : SqT K H b (x.map V.int) := .inl (.inl hb)
    refine ⟨_, pss_one (ps_ret (pe_callB (cr_sum rfl) (by rfl) B.sum (by decide +kernel) (pa_cons (pe_lc (own := [("_law_k", 1)]) (g := gName 1) (tt := tYes) rfl scLf.nd (pi_range1 (by rfl) B.range (pa_cons (pe_callB (cr_len (K := K) rfl) (by rfl) B.len PySem.boot_len (pa_cons (pv 0) pa_nil)) pa_nil))
        (blkOk_by (N := ["_law_word", "_law_k", "_law_j"]) (sc := defScope (topS 38)) (by decide +kernel))
        (fun _ _ _ _ _ => pg_name (i := 1) scLf.nd rfl (Or.inr rfl)) (fun _ _ _ _ _ => pts_nil)
        (fun _ _ _ _ _ => pe_callB (cr_len (K := K) rfl) (by rfl) B.len PySem.boot_len (pa_cons (pe_lc (own := [("_law_j", 2)]) (g := gName 2) rfl scLf.nd
          (pi_range2 (by rfl) B.range (pa_cons (pe_op op_add (pv 1) pe_int) (pa_cons (pe_callB (cr_len (K := K) rfl) (by rfl) B.len PySem.boot_len (pa_cons (pv 0) pa_nil)) pa_nil)))
          (blkOk_by (N := ["_law_word", "_law_k", "_law_j"]) (sc := relS (sumScope (topS 38)) (defScope (topS 38))) (by decide +kernel)) (fun _ _ _ _ _ => pg_name (i := 2) scLf.nd rfl (Or.inl rfl))
          (fun _ _ _ _ _ => pts_one (pt_cmpR op_lt (pe_ix (ix_tupK (K := K) rfl) (pv 0) (pv 2) (fun _ _ => rfl)) (pe_ix (ix_tupK (K := K) rfl) (pv 0) (pv 1) (fun _ _ => rfl)) (nomark _))) (fun _ _ _ _ _ => pe_int)) pa_nil))) pa_nil))), ?_⟩
    have en : ((x.length : Nat) : Int).toNat = x.length := Int.toNat_natCast _
    refine ⟨_, rfl, b, _, rfl, .inr hT, _, rfl, by rw [List.length_map, hx.1]; omega, by rw [List.length_map, hx.1]; omega, fun D hD => ?_⟩
    rw [List.length_map, en]
    refine lc_it (walk_range (lo := 0) (n := x.length)) (fun i H' => Same H H' ∧ H' D = some (.lst (((List.range i).map fun k => (cnt x k : Int)).map V.int))) ⟨same_new hD, upd_same⟩ (fun i H' _ h => True.intro) ?_ ?_
    · rintro i y H1 H2 hi ⟨h1, h2⟩ ⟨rfl, rfl⟩
      have hT2 := same_tup h1 hT
      have e0 : (0 : Int) + (i : Int) + 1 = ((i + 1 : Nat) : Int) := by omega
      have e1 : (0 : Int) + (i : Int) = ((i : Nat) : Int) := by omega
      refine ⟨rfl, yes_in ?_⟩
      refine ⟨_, rfl, _, 1, rfl, rfl, _, rfl, b, _, rfl, .inr hT2, _, _, rfl, ?_⟩
      have hx7 := hx.1
      refine ⟨⟨by omega, by omega, by omega, by rw [List.length_map]; omega⟩, fun D2 hD2 => ?_⟩
      have ed : (((x.map V.int).length : Int) - (0 + (i : Int) + 1)).toNat = (x.drop (i + 1)).length := by
        rw [List.length_map, List.length_drop]
        omega
      rw [ed]
      refine lc_it (walk_range (lo := 0 + (i : Int) + 1) (n := (x.drop (i + 1)).length)) (fun j G => Same H2 G ∧ G D2 = some (.lst (List.replicate (((x.drop (i + 1)).take j).filter fun z => decide (z < at0 x i)).length (V.int 1)))) ⟨same_new hD2, upd_same⟩ (fun j G _ h => True.intro) ?_ ?_
      · rintro j y G1 G2 hj ⟨g1, g2⟩ ⟨rfl, rfl⟩
        have hT4 := same_tup g1 hT2
        have hj2 : i + 1 + j < x.length := by
          rw [List.length_drop] at hj
          omega
        have e3 : (0 : Int) + (i : Int) + 1 + (j : Int) = ((i + 1 + j : Nat) : Int) := by omega
        have hm : (x.drop (i + 1))[j]? = some (at0 x (i + 1 + j)) := by
          rw [List.getElem?_drop, List.getElem?_eq_getElem hj2]
          unfold at0
          rw [List.getD_eq_getElem?_getD, List.getElem?_eq_getElem hj2]
          rfl
        refine ⟨rfl, ?_⟩
        refine ⟨_, rfl, _, rfl, b, _, _, V.int (at0 x (i + 1 + j)), rfl, rfl, hT4, ?_, _, rfl, _, rfl, b, _, _, V.int (at0 x i), rfl, rfl, hT4, ?_, _, _, rfl, rfl, _, rfl, ?_⟩
        · rw [e3]
          exact atI_nat (at0_get hj2)
        · rw [e1]
          exact atI_nat (at0_get hi)
        · rw [take_snoc hm, List.filter_append]
          by_cases c : at0 x (i + 1 + j) < at0 x i
          · refine iteTe (decide_eq_true c) ?_
            refine ⟨_, g2, ?_, fun a o e => ?_, ?_⟩
            · rw [List.length_replicate]
              refine small1000 (Nat.le_trans (List.length_filter_le _ _) ?_)
              rw [List.length_take, List.length_drop]
              omega
            · rw [upd_ne (ne_of_none e hD2)]
              exact g1 a o e
            · rw [upd_same, List.filter_cons_of_pos (by simpa using c), List.length_append, List.filter_nil, List.length_singleton, List.replicate_succ']
          · refine iteFe (decide_eq_false c) ⟨g1, ?_⟩
            rw [g2, List.filter_cons_of_neg (by simpa using c)]
            simp
      · rintro G1 ⟨g1, g2⟩
        rw [List.take_length] at g2
        refine ⟨D2, _, rfl, .inl (.inl (.inl g2)), _, g1 _ _ h2, ?_, fun a o e => ?_, ?_⟩
        · rw [List.length_map, List.length_map, List.length_range]
          exact small1000 (by omega)
        · rw [upd_ne (ne_of_none e hD)]
          exact g1 a o (h1 a o e)
        · rw [upd_same, List.range_succ, List.map_append, List.map_append, List.length_replicate]
          rfl
    · rintro H1 ⟨h1, h2⟩
      refine ⟨D, _, rfl, .inl (.inl h2), ?_⟩
      rw [cnt_sum]
      exact q H1 h1
/-! ### _law_form -/
theorem scLform : FnScope ["_law_field", "_law_q_here", "_law_one", "_law_other", "_law_found", "_law_word"] ["_law_field", "_law_q_here", "_law_one", "_law_other"] (defScope (topS 39)) := ⟨rfl, rfl, rfl, by decide +kernel, rfl, by decide +kernel, by decide +kernel⟩
theorem ok_lform {f f1 f2 : Addr} {fd fd1 fd2 : FuncData} (F : Fun K "_law_form" "_law_form" (topS 39) f fd) (D1 : Dn P w K mg base 1 "_law_power" ["_law_field", "_law_number", "_law_times_here"] spPow f1 fd1) (D2 : Dn P w K mg base 1 "_law_falls" ["_law_word"] spFalls f2 fd2) :
    FnOk P w K mg base CX0 2 f fd ["_law_field", "_law_q_here", "_law_one", "_law_other"] spFormOf := by
  refine F.ok scLform (fun vs H Q E h => ?_) (fun cdv A outer s H vs Q E hr h => ?_)
  · obtain ⟨p, q, a, b, one, other, n, rfl, _⟩ := h
    rfl
  · obtain ⟨p, q, a, b, one, other, n, rfl, hp, hp1, hq, ha, hb, c1, c2, hn, k⟩ := h
    have hu := hu_of hr
    refine ⟨_, pss_cons (ps_set (i := 4) scLform.nd rfl (.inl rfl) pe_int)
      (pss_cons (ps_lock (ps_for PassesOwn.never rfl (pi_keys (pv 2)) (pg_name (i := 5) scLform.nd rfl (Or.inl rfl))
        (pss_one (ps_set (i := 4) scLform.nd rfl (.inl rfl) (pe_op op_add (pv 4) (pe_op op_mul (pe_op op_mul (pe_dget hu (pv 2) (pv 5) (fun _ _ => rfl)) (pe_dget2 hu (pv 3) (pv 5) pe_int ⟨rfl, rfl, rfl, rfl⟩))
            (pe_call D1.ok hr (by rfl) D1.g D1.kp D1.b .nil pass0 (pa_cons (pv 0) (pa_cons (pv 1) (pa_cons (pe_call D2.ok hr (by rfl) D2.g D2.kp D2.b .nil pass0 (pa_cons (pv 5) pa_nil)) pa_nil))))))))))
      (pss_one (ps_ret (pe_op op_mod (pv 4) (pv 0))))), ?_⟩
    refine ⟨a, .dT (enc one), ha, True.intro, fun od => ⟨.ref a, rfl, a, od, rfl, .inr ⟨enc one, upd_same, ?_⟩⟩⟩
    refine for_it (walk_keysT (d := a) (o := od) (kvs := enc one)) (fun j σ H' => ∃ y5 : Option V, σ = [some (.int p), some (.int q), some (.ref a), some (.ref b), some (.int (fm p q (one.take j) other)), y5] ∧ LkS H H' a od one)
      ⟨none, rfl, upd_same, same_lock⟩ (fun j σ H' _ ⟨_, _, h⟩ => h.1) ?_ ?_
    · rintro j y σ H1 H2 hj ⟨y5, rfl, lk⟩ ⟨rfl, kk, v, t, hk, rfl, ht⟩
      obtain ⟨kv, e1, rfl, rfl⟩ := enc_at hk
      have hw := wrd_key ht
      have hm := List.mem_of_getElem? e1
      have wx := c1.wd kv hm
      have rb := lk.rdb ha hb
      have et : fm p q (one.take (j + 1)) other = fm p q (one.take j) other + kv.2 * (look other kv.1 * pw p q (fl kv.1)) := by
        unfold fm
        rw [take_snoc e1, I_snoc]
      have g1 := dget_in lk.rd hw (List.mem_map.mpr ⟨kv, hm, rfl⟩)
      rw [look_val c1.sum.nd hm] at g1
      obtain ⟨o, ho1, ho2⟩ := dget_look rb hw
      have v1 := c1.vl kv hm
      refine ⟨_, rfl, _, rfl, _, rfl, a, _, rfl, g1, _, rfl, b, rfl, .inr ⟨_, rb⟩, _, rfl, o, ho1, kv.2, look other kv.1, rfl, ho2, .inl (by omega), ?_⟩
      refine ⟨_, rfl, _, rfl, _, rfl, t, kv.1, n, rfl, hw, wx, hn, fun H3 s3 => ⟨p, q, fl kv.1, rfl, hp, hp1, hq, fl_few wx hn, ?_⟩⟩
      refine ⟨_, pw p q (fl kv.1), rfl, rfl, .inr (pw_small hp hp1 _), _, _, rfl, rfl, some (.ref t), ?_, lk.same s3⟩
      rw [et, Int.mul_assoc]
      rfl
    · rintro σ H1 ⟨y5, rfl, lk⟩
      rw [enc_length, List.take_length]
      exact ⟨lk.1, _, rfl, _, rfl, _, p, rfl, rfl, hp, k _ (lk.off ha)⟩
end
end K9

set_option Elab.async false
set_option linter.all false
set_option maxRecDepth 100000
set_option maxHeartbeats 1000000
/-! _law_mixed_rows -/
namespace K9
open PySem PySem.Spec PyProof.Rows L2
/-- so many times some sums, read -/
def Mi : List (Int × Sm) → (Wd → Int) → Int
  | [], _ => 0
  | x :: r, h => x.1 * I x.2 h + Mi r h
theorem Mi_snoc (x : Int × Sm) (h : Wd → Int) : ∀ r : List (Int × Sm), Mi (r ++ [x]) h = Mi r h + x.1 * I x.2 h
  | [] => by
    show x.1 * I x.2 h + 0 = 0 + x.1 * I x.2 h
    omega
  | y :: r => by
    show y.1 * I y.2 h + Mi (r ++ [x]) h = y.1 * I y.2 h + Mi r h + x.1 * I x.2 h
    rw [Mi_snoc x h r]
    omega
/-- the words of all rows together -/
def many : List (Int × Sm) → Nat
  | [] => 0
  | x :: r => x.2.length + many r
theorem many_snoc (x : Int × Sm) : ∀ r : List (Int × Sm), many (r ++ [x]) = many r + x.2.length
  | [] => by
    show x.2.length + 0 = 0 + x.2.length
    omega
  | y :: r => by
    show y.2.length + many (r ++ [x]) = y.2.length + many r + x.2.length
    rw [many_snoc x r]
    omega
theorem many_take : ∀ (r : List (Int × Sm)) (j : Nat), many (r.take j) ≤ many r
  | [], j => by
    rw [List.take_nil]
    exact Nat.le_refl _
  | x :: r, 0 => Nat.zero_le _
  | x :: r, j + 1 => by
    show x.2.length + many (r.take j) ≤ x.2.length + many r
    have := many_take r j
    omega
/-- e is the rows' mixture -/
def MixT (p : Int) (n : Nat) (rws : List (Int × Sm)) (e : Sm) : Prop := Canon cd p n e ∧ (∀ h, Eqp p (I e h) (Mi rws h)) ∧ e.length ≤ many rws
def RowOk (H : Hp) (n : Nat) (r : Addr) (x : Int × Sm) : Prop := SumAt H r x.2 ∧ K9.Sum n x.2 ∧ -(2 ^ 64) < x.1 ∧ x.1 < 2 ^ 64
def spMix : Sp := fun vs H Q _ => ∃ (p : Int) (a b : Addr) (ra : List Addr) (rws : List (Int × Sm)) (n : Nat), vs = [.int p, .ref a, .ref b] ∧ 0 < p ∧ H a = some (.lst (rws.map fun x => V.int x.1)) ∧ H b = some (.lst (ra.map V.ref)) ∧ Paired (RowOk H n) ra rws ∧ 1 ≤ n ∧ many rws < 64 ∧
  ∀ (H' : Hp) (r : Addr) (e : Sm), Same H H' → H r = none → SumAt H' r e → MixT p n rws e → Q (.ref r) H'
section
variable {P : Program} {w : World} {K : PySem.W.Frag} {mg : Str → Option Value} {base : Heap}
theorem scMix : FnScope ["_law_field", "_law_numbers_here", "_law_rows", "_law_found", "_law_number", "_law_row", "_law_key"] ["_law_field", "_law_numbers_here", "_law_rows"] (defScope (topS 40)) := ⟨rfl, rfl, rfl, by decide +kernel, rfl, by decide +kernel, by decide +kernel⟩
theorem ok_mix {f f1 : Addr} {fd fd1 : FuncData} (F : Fun K "_law_mixed_rows" "_law_mixed_rows" (topS 40) f fd) (B : Bl mg) (D1 : Dn P w K mg base 1 "_law_trim" ["_law_field", "_law_some"] spPlain f1 fd1) :
    FnOk P w K mg base CX0 2 f fd ["_law_field", "_law_numbers_here", "_law_rows"] spMix := by
  refine F.ok scMix (fun vs H Q E h => ?_) (fun cdv A outer s H vs Q E hr h => ?_)
  · obtain ⟨p, a, b, ra, rws, n, rfl, _⟩ := h
    rfl
  · obtain ⟨p, a, b, ra, rws, n, rfl, hp, ha, hb, hrow, hn, h64, k⟩ := h
    have hu := hu_of hr
    refine ⟨_, pss_cons (ps_set (i := 3) scMix.nd rfl (.inl rfl) pe_dnewT)
      (pss_cons (ps_for PassesOwn.never rfl (pi_zip (by rfl) B.zip (pa_cons (pv 1) (pa_cons (pv 2) pa_nil))) (pg_tup rfl (pgs_cons (pg_name (i := 4) scMix.nd rfl (Or.inl rfl)) (pgs_cons (pg_name (i := 5) scMix.nd rfl (Or.inl rfl)) pgs_nil)))
        (pss_one (ps_lock (ps_for PassesOwn.never rfl (pi_keys (pv 5)) (pg_name (i := 6) scMix.nd rfl (Or.inl rfl))
          (pss_one (ps_dput hu (pv 3) (pv 6) (pe_op op_add (pe_dget2 hu (pv 3) (pv 6) pe_int ⟨rfl, rfl, rfl, rfl⟩) (pe_op op_mul (pv 4) (pe_dget hu (pv 5) (pv 6) (fun _ _ => rfl)))) rfl))))))
      (pss_one (ps_ret (pe_call D1.ok hr (by rfl) D1.g D1.kp D1.b .nil pass0 (pa_cons (pv 0) (pa_cons (pv 3) pa_nil)))))), ?_⟩
    intro fo hfo
    have s0 : Same H (upd H fo (.dT [])) := same_new hfo
    have lr : ra.length = rws.length := Paired.length hrow
    refine ⟨_, rfl, _, rfl, a, b, _, _, rfl, .inl (.inl (s0 _ _ ha)), .inl (.inl (s0 _ _ hb)), ?_⟩
    refine for_it (walk_zip (K := K) (a := a) (b := b) (xs := rws.map fun x => V.int x.1) (ys := ra.map V.ref) (n := rws.length) (by rw [List.length_map, List.length_map, lr, Nat.min_self]))
      (fun j σ H' => ∃ (y4 y5 y6 : Option V) (acc : Sm), σ = [some (.int p), some (.ref a), some (.ref b), some (.ref fo), y4, y5, y6] ∧ Same H H' ∧ SumAt H' fo acc ∧ K9.Sum n acc ∧ acc.length ≤ many (rws.take j) ∧ ∀ h, I acc h = Mi (rws.take j) h)
      ⟨none, none, none, [], rfl, s0, upd_same, ⟨List.nodup_nil, fun kv hm => (nomatch hm)⟩, Nat.le_refl _, fun _ => rfl⟩
      (fun j σ H' _ ⟨_, _, _, _, _, s, _⟩ => ⟨.inl (.inl (s _ _ ha)), .inl (.inl (s _ _ hb))⟩) ?_ ?_
    · rintro j y σ H1 H2 hj ⟨y4, y5, y6, acc, rfl, s1, hacc, sacc, lacc, iacc⟩ ⟨T, v1, v2, rfl, nT, rfl, e1, e2⟩
      obtain ⟨r, er, rfl⟩ := ref_at e2
      obtain ⟨x, ex, hx, sx, b1, b2⟩ := paired_get hrow er
      have ev : v1 = V.int x.1 := by
        have e1' : (rws.map fun x => V.int x.1)[j]? = some v1 := e1
        rw [List.getElem?_map, ex] at e1'
        exact (Option.some.inj e1').symm
      subst ev
      have neT : fo ≠ T := ne_of_none hacc nT
      have ner : fo ≠ r := fun z => by rw [z] at hfo; exact nomatch hfo.symm.trans hx
      have s2 : Same H (upd H1 T (.tup [V.int x.1, V.ref r])) := s1.trans (same_new nT)
      have hacc2 : SumAt (upd H1 T (.tup [V.int x.1, V.ref r])) fo acc := by
        show upd H1 T _ fo = _
        rw [upd_ne neT]
        exact hacc
      have uT : upd H1 T (.tup [V.int x.1, V.ref r]) T = some (.tup [V.int x.1, V.ref r]) := upd_same
      generalize upd H1 T (.tup [V.int x.1, V.ref r]) = G at s2 hacc2 uT ⊢
      refine ⟨T, [V.int x.1, V.ref r], rfl, .inl (.inl uT), rfl, _, [V.ref r], rfl, _, [], rfl, rfl, ?_⟩
      have hr1 := s2 _ _ hx
      have tk : many (rws.take (j + 1)) = many (rws.take j) + x.2.length := by rw [take_snoc ex, many_snoc]
      have tot := many_take rws (j + 1)
      refine ⟨r, .dT (enc x.2), hr1, True.intro, fun od => ⟨.ref r, rfl, r, od, rfl, .inr ⟨enc x.2, upd_same, ?_⟩⟩⟩
      refine for_it (walk_keysT (d := r) (o := od) (kvs := enc x.2)) (fun m σ H' => ∃ (y6 : Option V) (ac : Sm), σ = [some (.int p), some (.ref a), some (.ref b), some (.ref fo), some (.int x.1), some (.ref r), y6] ∧ LkS H H' r od x.2 ∧ SumAt H' fo ac ∧ K9.Sum n ac ∧ ac.length ≤ many (rws.take j) + m ∧ ∀ h, I ac h = Mi (rws.take j) h + x.1 * I (x.2.take m) h)
        ⟨y6, acc, rfl, ⟨upd_same, fun c o e hc => by rw [upd_ne hc]; exact s2 _ _ e⟩, by show upd G r _ fo = _; rw [upd_ne ner]; exact hacc2, sacc, lacc, fun h => by rw [iacc, List.take_zero, I_nil, Int.mul_zero, Int.add_zero]⟩
        (fun m σ H' _ ⟨_, _, _, h, _⟩ => h.1) ?_ ?_
      · rintro m y σ G1 G2 hm ⟨y6, ac, rfl, lk, hac, sac, lac, iac⟩ ⟨rfl, kk, v, t, hk, rfl, ht⟩
        obtain ⟨kv, e3, rfl, rfl⟩ := enc_at hk
        have hw := wrd_key ht
        have hmem := List.mem_of_getElem? e3
        obtain ⟨o, ho1, ho2⟩ := dget_look (.inl hac) hw
        have hd := dget_in lk.rd hw (List.mem_map.mpr ⟨kv, hmem, rfl⟩)
        rw [look_val sx.nd hmem] at hd
        rw [enc_length] at hm
        have lac2 : ac.length < sizeLine := small1000 (by omega)
        refine ⟨_, rfl, fo, rfl, .inr ⟨_, .inl hac⟩, _, rfl, o, ho1, _, rfl, _, rfl, _, rfl, r, _, rfl, hd, x.1, kv.2, rfl, rfl, .inl ⟨b1, b2⟩, look ac kv.1, x.1 * kv.2, ho2, rfl, _, rfl, _, rfl, fo, _, rfl, dput_enc hac hw lac2, ?_⟩
        refine ⟨_, addTo ac kv.1 (x.1 * kv.2), rfl, lk.offb (off_upd _ _ _) hfo ner, upd_same, sum_addTo sac (sx.wd kv hmem) _, ?_, fun h => ?_⟩
        · have := len_addTo ac kv.1 (x.1 * kv.2)
          omega
        · rw [I_addTo sac.nd, iac, take_snoc e3, I_snoc, Int.mul_add, Int.mul_assoc]
          omega
      · rintro σ G1 ⟨y6, ac, rfl, lk, hac, sac, lac, iac⟩
        rw [enc_length] at lac iac
        refine ⟨lk.1, _, _, _, ac, rfl, lk.off hx, ?_, sac, by omega, fun h => ?_⟩
        · show upd G1 r _ fo = _
          rw [upd_ne ner]
          exact hac
        · rw [iac, List.take_length, take_snoc ex, Mi_snoc]
    · rintro σ H1 ⟨y4, y5, y6, acc, rfl, s1, hacc, sacc, lacc, iacc⟩
      rw [List.take_length] at lacc iacc
      refine ⟨_, rfl, _, rfl, p, fo, acc, n, rfl, hp, .inl hacc, sacc, hn, by omega, fun H' r e s2 nr hr' c1 c2 c3 => ?_⟩
      exact k H' r e (s1.trans s2) (s1.free nr) hr' ⟨c1, fun h => (c2 h).trans (Eqp.of_eq (iacc h)), by omega⟩
end
end K9

set_option Elab.async false
set_option linter.all false
set_option maxRecDepth 100000
set_option maxHeartbeats 1000000
/-! _law_drawn_sum, _law_begun -/
namespace K9
open PySem PySem.Spec PyProof.Rows L2
theorem put_add (d : Sm) (x : Wd) (c : Int) : put d x c = addTo d x (c - look d x) := by
  unfold addTo
  rw [show look d x + (c - look d x) = c by omega]
theorem put_ne {d : Sm} {x : Wd} {c : Int} : put d x c ≠ [] := fun e => by
  unfold put at e
  by_cases h : hasK d x = true
  · rw [if_pos h] at e
    have e' := List.map_eq_nil_iff.mp e
    rw [e'] at h
    exact Bool.noConfusion h
  · rw [if_neg h] at e
    exact List.cons_ne_nil _ _ (List.append_eq_nil_iff.mp e).2
theorem DrawAt.freeC {H : Hp} {d l c p : Addr} (D : DrawAt H d l c) (h : H p = none) : p ≠ c := by
  obtain ⟨ms, h3, _⟩ := D.cl
  exact fun z => by
    rw [z, h3] at h
    cases h
theorem DrawAt.other {H : Hp} {d l c p : Addr} {o : HO} (D : DrawAt H d l c) (h1 : p ≠ d) (h2 : p ≠ l) (h3 : p ≠ c) : DrawAt (L2.upd H p o) d l c := by
  obtain ⟨ne, ⟨r, t, g1⟩, ⟨ns, g2, z2⟩, ⟨ms, g3, z3⟩⟩ := D
  exact ⟨ne, ⟨r, t, by rw [upd_ne (Ne.symm h1)]; exact g1⟩, ⟨ns, by rw [upd_ne (Ne.symm h2)]; exact g2, z2⟩, ⟨ms, by rw [upd_ne (Ne.symm h3)]; exact g3, z3⟩⟩
def spDrawn : Sp := fun vs H Q _ => ∃ (d l c : Addr) (p : Int) (n : Nat), vs = [.ref d, .int p, .int (n : Int)] ∧ DrawAt H d l c ∧ p ∈ primes ∧ 1 ≤ n ∧ n ≤ 7 ∧
  ∀ (H' : Hp) (r : Addr) (e : Sm), Keep d l H H' → DrawAt H' d l c → H r = none → SumAt H' r e → K9.Sum n e → e ≠ [] → e.length ≤ 4 → Q (.ref r) H'
section
variable {P : Program} {w : World} {K : PySem.W.Frag} {mg : Str → Option Value} {base : Heap}
theorem scDrawn : FnScope ["_law_draw", "_law_field", "_law_many", "_law_found", "_law_most", "_law_lap", "_law_word", "_law_k"] ["_law_draw", "_law_field", "_law_many"] (defScope (topS 41)) := ⟨rfl, rfl, rfl, by decide +kernel, rfl, by decide +kernel, by decide +kernel⟩
theorem ok_drawn {f f1 f2 : Addr} {fd fd1 fd2 : FuncData} (F : Fun K "_law_drawn_sum" "_law_drawn_sum" (topS 41) f fd) (B : Bl mg) (D1 : Dn P w K mg base 2 "_law_take" ["_law_draw", "_law_amount"] spTake f1 fd1) (D2 : Dn P w K mg base 3 "_law_pick" ["_law_draw", "_law_some"] spPick f2 fd2) :
    FnOk P w K mg base CX0 4 f fd ["_law_draw", "_law_field", "_law_many"] spDrawn := by
  refine F.ok scDrawn (fun vs H Q E h => ?_) (fun cdv A outer s H vs Q E hr h => ?_)
  · obtain ⟨d, l, c, p, n, rfl, _⟩ := h
    rfl
  · obtain ⟨d, l, c, p, n, rfl, D, hp, hn1, hn, k⟩ := h
    have hu := hu_of hr
    have pp := primes_pos hp
    refine ⟨_, pss_cons (ps_asg (pe_tup (pa_cons pe_dnewT (pa_cons (pe_call D2.ok hr (by rfl) D2.g D2.kp D2.b .nil pass0 (pa_cons (pv 0) (pa_cons (pe_lst (pa_cons pe_int (pa_cons pe_int (pa_cons pe_int (pa_cons pe_int pa_nil))))) pa_nil))) pa_nil)))
        (pg_tup rfl (pgs_cons (pg_name (i := 3) scDrawn.nd rfl (Or.inl rfl)) (pgs_cons (pg_name (i := 4) scDrawn.nd rfl (Or.inr rfl)) pgs_nil))))
      (pss_cons (ps_for PassesOwn.never rfl (pi_range1 (by rfl) B.range (pa_cons (pe_op op_add pe_int (pe_call D1.ok (hr.mono (by decide)) (by rfl) D1.g D1.kp D1.b .nil pass0 (pa_cons (pv 0) (pa_cons pe_int pa_nil)))) pa_nil)) (pg_name (i := 5) scDrawn.nd rfl (Or.inl rfl))
        (pss_cons (ps_set (i := 6) scDrawn.nd rfl (.inl rfl) (pe_callTy call_tuple_of (by rfl) B.tuple (by decide +kernel) (pa_cons (pe_lc (own := [("_law_k", 7)]) (g := gName 7) (tt := tYes) rfl scDrawn.nd (pi_range1 (by rfl) B.range (pa_cons (pv 2) pa_nil))
            (blkOk_by (N := ["_law_draw", "_law_field", "_law_many", "_law_found", "_law_most", "_law_lap", "_law_word", "_law_k"]) (sc := defScope (topS 41)) (by decide +kernel)) (fun _ _ _ _ _ => pg_name (i := 7) scDrawn.nd rfl (Or.inl rfl)) (fun _ _ _ _ _ => pts_nil)
            (fun _ _ _ _ _ => pe_op op_add pe_int (pe_call D1.ok (hr.mono (by decide)) (by rfl) D1.g D1.kp D1.b .nil pass0 (pa_cons (pv 0) (pa_cons (pv 4) pa_nil))))) pa_nil)))
        (pss_one (ps_dput hu (pv 3) (pv 6) (pe_op op_sub (pe_call D1.ok (hr.mono (by decide)) (by rfl) D1.g D1.kp D1.b .nil pass0 (pa_cons (pv 0) (pa_cons (pe_op op_mul pe_int (pv 1)) pa_nil))) (pv 1)) rfl))))
      (pss_one (ps_ret (pv 3)))), ?_⟩
    intro fo hfo
    have s0 : Same H (upd H fo (.dT [])) := same_new hfo
    have u0 : SumAt (upd H fo (.dT [])) fo [] := upd_same
    have D0 := D.same s0
    obtain ⟨nd, nl⟩ := D.free hfo
    generalize upd H fo (.dT []) = H0 at s0 u0 D0 ⊢
    refine ⟨_, rfl, by show 4 ≤ sizeLine; decide, fun a ha => ?_⟩
    have s1 : Same H0 (upd H0 a (.lst (([2, 3, 3, 16] : List Int).map V.int))) := same_new ha
    obtain ⟨ad, al⟩ := D0.free ha
    refine ⟨d, l, c, a, [2, 3, 3, 16], rfl, D0.same s1, upd_same, al, by decide, by decide, fun H1 most k1 E1 hm => ?_⟩
    have k1' := (Keep.of (d := d) (l := l) s1).trans k1
    have u1 : SumAt H1 fo [] := k1'.new D0 u0 (fun _ z => nomatch z) nl
    have kk : Keep d l H H1 := (Keep.of s0).trans k1'
    have bm : 0 < most ∧ most ≤ 16 := by
      have all : ∀ m : Int, m ∈ [2, 3, 3, 16] → 0 < m ∧ m ≤ 16 := by decide
      exact all most hm
    clear k1 k1' s1 ha
    refine ⟨by show 2 ≤ sizeLine; decide, fun T hT => ?_⟩
    have s2 : Same H1 (upd H1 T (.tup [V.ref fo, V.int most])) := same_new hT
    refine ⟨T, [V.ref fo, V.int most], rfl, .inl (.inl upd_same), rfl, _, [V.int most], rfl, _, [], rfl, rfl, ?_⟩
    have E2 := E1.same s2
    have u2 := s2 _ _ u1
    have k2 := kk.trans (Keep.of s2)
    generalize upd H1 T (.tup [V.ref fo, V.int most]) = H2 at E2 u2 k2 ⊢
    clear s2 hT
    refine ⟨_, rfl, d, l, c, 4, rfl, E2, by decide, by decide, fun H3 v k3 E3 v0 v1 => ⟨1, v, rfl, rfl, 1 + v, rfl, by omega, by omega, ?_⟩⟩
    have u3 : SumAt H3 fo [] := k3.new E2 u2 (fun _ z => nomatch z) nl
    refine for_it (walk_range (lo := 0) (n := (1 + v).toNat)) (fun j σ H' => ∃ (y5 y6 : Option V) (acc : Sm), σ = [some (.ref d), some (.int p), some (.int (n : Int)), some (.ref fo), some (.int most), y5, y6, none] ∧ Keep d l H H' ∧ DrawAt H' d l c ∧ SumAt H' fo acc ∧ K9.Sum n acc ∧ acc.length ≤ j ∧ (0 < j → acc ≠ []))
      ⟨none, none, [], rfl, k2.trans k3, E3, u3, ⟨List.nodup_nil, fun kv hm => (nomatch hm)⟩, Nat.le_refl _, fun z => absurd z (Nat.lt_irrefl 0)⟩ (fun j σ H' _ _ => True.intro) ?_ ?_
    · rintro j y σ G G' hj ⟨y5, y6, acc, rfl, kG, EG, hacc, sacc, lacc, nacc⟩ ⟨rfl, rfl⟩
      have en : ((n : Nat) : Int).toNat = n := Int.toNat_natCast n
      refine ⟨_, rfl, (n : Int), rfl, by omega, by omega, fun Dl hDl => ?_⟩
      rw [en]
      obtain ⟨dd, dl⟩ := EG.free hDl
      have dc : Dl ≠ c := EG.freeC hDl
      have df : Dl ≠ fo := fun z => by rw [z] at hDl; exact nomatch hDl.symm.trans hacc
      refine lc_it (walk_range (lo := 0) (n := n)) (fun i M => ∃ ws : Wd, Keep d l G' M ∧ DrawAt M d l c ∧ M Dl = some (.lst (ws.map V.int)) ∧ ws.length = i ∧ ∀ x ∈ ws, 1 ≤ x ∧ x ≤ 16)
        ⟨[], Keep.of (same_new hDl), EG.same (same_new hDl), upd_same, rfl, fun x hx => (nomatch hx)⟩ (fun i M _ _ => True.intro) ?_ ?_
      · rintro i y M M' hi ⟨ws, kM, EM, hM, lM, bM⟩ ⟨rfl, rfl⟩
        refine ⟨rfl, yes_in ?_⟩
        refine ⟨_, rfl, _, rfl, d, l, c, most, rfl, EM, bm.1, by omega, fun M2 x kx Ex x0 x1 => ⟨1, x, rfl, rfl, ?_⟩⟩
        have hM2 := kx.new EM hM (fun _ z => nomatch z) dl
        refine ⟨_, hM2, ?_, ws ++ [1 + x], fun b o e h1 h2 => ?_, Ex.other dd dl dc, ?_, ?_, fun z hz => ?_⟩
        · rw [List.length_map, lM]
          exact small1000 (by omega)
        · rw [upd_ne (ne_of_none e hDl)]
          exact kx _ _ (kM _ _ e h1 h2) h1 h2
        · rw [upd_same, List.map_append]
          rfl
        · rw [List.length_append, lM]
          rfl
        · rcases List.mem_append.mp hz with h | h
          · exact bM z h
          · have e := List.mem_singleton.mp h
            omega
      · rintro M ⟨ws, kM, EM, hM, lM, bM⟩
        refine ⟨Dl, _, rfl, .inl ⟨.inl (.inl hM), fun t ht => ?_⟩⟩
        have st : Same M (upd M t (.tup (ws.map V.int))) := same_new ht
        have ut : WrdAt (upd M t (.tup (ws.map V.int))) t ws := upd_same
        have Et := EM.same st
        have hat : SumAt (upd M t (.tup (ws.map V.int))) fo acc := st _ _ (kM.new EG hacc (fun _ z => nomatch z) nl)
        have kt := kG.trans (kM.trans (Keep.of st))
        have tl : t ≠ l := (EM.free ht).2
        generalize upd M t (.tup (ws.map V.int)) = N1 at ut Et hat kt ⊢
        refine ⟨_, rfl, _, rfl, 3, p, rfl, rfl, .inl (by decide), d, l, c, 3 * p, rfl, Et, by omega, by omega, fun N2 x kx Ex x0 x1 => ?_⟩
        have ha2 := kx.new Et hat (fun _ z => nomatch z) nl
        have hw2 : WrdAt N2 t ws := kx.new Et ut (fun _ z => nomatch z) tl
        have nf : fo ≠ c := fun z => by
          obtain ⟨ms, h3, _⟩ := Ex.cl
          rw [← z] at h3
          exact nomatch h3.symm.trans ha2
        refine ⟨_, rfl, x, p, rfl, rfl, _, rfl, _, rfl, fo, _, rfl, dput_enc ha2 hw2 (small1000 (by omega)), ?_⟩
        refine ⟨_, _, put acc ws (x - p), rfl, fun b o e h1 h2 => ?_, Ex.other nd nl nf, upd_same, ?_, ?_, fun _ => put_ne⟩
        · rw [upd_ne (ne_of_none e hfo)]
          exact kx _ _ (kt _ _ e h1 h2) h1 h2
        · rw [put_add]
          exact sum_addTo sacc ⟨lM, bM⟩ _
        · rw [put_add]
          have := len_addTo acc ws (x - p - look acc ws)
          omega
    · rintro σ G ⟨y5, y6, acc, rfl, kG, EG, hacc, sacc, lacc, nacc⟩
      exact ⟨_, rfl, k G fo acc kG EG hfo hacc sacc (nacc (by omega)) (by omega)⟩
end
end K9

set_option Elab.async false
set_option linter.all false
set_option maxRecDepth 100000
set_option maxHeartbeats 1000000
/-! _law_begun; what the law asks, over plain sums -/
namespace K9
open PySem PySem.Spec PyProof.Rows L2
/-! ### the plain law -/
theorem inj_cd {n : Nat} : ∀ v w, Wrd n v → Wrd n w → cd v = cd w → v = w := fun v w => cd_inj v w
theorem law_twice {p q : Int} {n i : Nat} {d e e1 m : Sm} (hp : 0 < p) (s : K9.Sum n d) (hi : i + 1 < n) (h1 : LedR p q n [i, i] d e) (h2 : Led p q n i d e1) (h3 : MixT p n [(q, d), (q - 1, e1)] m) : e = m := by
  refine Canon.one inj_cd hp h1.1 h3.1 fun h => ((h1.2 h).trans ?_).trans (h3.2.1 h).symm
  have a : I d (TsR q [i, i] h) = q * I d h + (q - 1) * I d (Ts q i h) := by
    rw [← I_mul, ← I_mul, ← I_add]
    exact I_congr fun kv hm => twice q h (by rw [(s.wd kv hm).1]; exact hi)
  rw [a]
  show Eqp p _ (q * I d h + ((q - 1) * I e1 h + 0))
  rw [Int.add_zero]
  exact (Eqp.refl p _).add ((Eqp.refl p _).mul (h2.2.1 h).symm)
theorem law_braid {p q : Int} {n j : Nat} {d e f : Sm} (hp : 0 < p) (s : K9.Sum n d) (hj : j + 2 < n) (h1 : LedR p q n [j + 1, j, j + 1] d e) (h2 : LedR p q n [j, j + 1, j] d f) : e = f := by
  refine Canon.one inj_cd hp h1.1 h2.1 fun h => ((h1.2 h).trans (Eqp.of_eq ?_)).trans (h2.2 h).symm
  exact I_congr fun kv hm => (braid q h (i := j) (by rw [(s.wd kv hm).1]; exact hj)).symm
theorem law_apart {p q : Int} {n i j : Nat} {d e f : Sm} (hp : 0 < p) (s : K9.Sum n d) (hj : j + 2 ≤ i) (hi : i + 1 < n) (h1 : LedR p q n [i, j] d e) (h2 : LedR p q n [j, i] d f) : e = f := by
  refine Canon.one inj_cd hp h1.1 h2.1 fun h => ((h1.2 h).trans (Eqp.of_eq ?_)).trans (h2.2 h).symm
  exact I_congr fun kv hm => apart q h hj (by rw [(s.wd kv hm).1]; exact hi)
theorem law_adj {p q : Int} {n i : Nat} {one other e1 e2 : Sm} (s1 : K9.Sum n one) (s2 : K9.Sum n other) (s3 : K9.Sum n e2) (hi : i + 1 < n) (h1 : ∀ h, Eqp p (I e1 h) (I one (Ts q i h))) (h2 : ∀ h, Eqp p (I e2 h) (I other (Ts q i h))) :
    Eqp p (fm p q e1 other) (fm p q one e2) := by
  rw [fm_double s2.nd, fm_double s3.nd]
  refine (h1 _).trans (I_eqp fun w hw => ?_)
  refine Eqp.trans (Eqp.of_eq (Ts_lin q i other (fun u w' => dl u w' * pw p q (fl w')) w.1)) (Eqp.trans (I_eqp fun u hu => ?_) (h2 _).symm)
  have a : Ts q i (fun w' => dl u.1 w' * pw p q (fl w')) w.1 = pw p q (fl u.1) * Ts q i (dl u.1) w.1 := by
    rw [← Ts_mul]
    exact Ts_congr fun v => by rw [dl_mul u.1 v (fun v => pw p q (fl v)), Int.mul_comm]
  have b : Ts q i (fun u' => dl u' w.1 * pw p q (fl w.1)) u.1 = pw p q (fl w.1) * Ts q i (dl w.1) u.1 := by
    rw [← Ts_mul]
    exact Ts_congr fun v => by rw [dl_comm, Int.mul_comm]
  show Eqp p (Ts q i (fun w' => dl u.1 w' * pw p q (fl w')) w.1) (Ts q i (fun u' => dl u' w.1 * pw p q (fl w.1)) u.1)
  rw [a, b, Int.mul_comm, Int.mul_comm (pw p q (fl w.1))]
  exact msym (by rw [(s1.wd w hw).1]; exact hi) (by rw [(s2.wd u hu).1]; exact hi)
def spBegun (K : PySem.W.Frag) : Sp := fun vs H Q _ => ∃ (a : Addr) (ns : List Int), vs = [.ref a] ∧ SqL K H a (ns.map V.int) ∧ ns.length ≤ 63 ∧ ∀ (H' : Hp) (d l c : Addr), Same H H' → DrawAt H' d l c → Q (.ref d) H'
section
variable {P : Program} {w : World} {K : PySem.W.Frag} {mg : Str → Option Value} {base : Heap}
theorem scBegun : FnScope ["_law_script", "_law_large", "_law_grain"] ["_law_script"] (defScope (topS 31)) := ⟨rfl, rfl, rfl, by decide +kernel, rfl, by decide +kernel, by decide +kernel⟩
theorem ok_begun {f : Addr} {fd : FuncData} (F : Fun K "_law_begun" "_law_begun" (topS 31) f fd) (B : Bl mg) : FnOk P w K mg base CX0 1 f fd ["_law_script"] (spBegun K) := by
  refine F.ok scBegun (fun vs H Q E h => ?_) (fun cdv A outer s H vs Q E hr h => ?_)
  · obtain ⟨a, ns, rfl, _⟩ := h
    rfl
  · obtain ⟨a, ns, rfl, hS, hl, k⟩ := h
    refine ⟨_, pss_cons (ps_setLc (i := 1) (own := [("_law_grain", 2)]) (g := gName 2) (by rfl) scBegun.nd rfl rfl (sw_true rfl rfl rfl (by decide +kernel)) (pi_list (pv 0)) (blkOk_by (N := ["_law_script", "_law_large", "_law_grain"]) (sc := defScope (topS 31)) (by decide +kernel))
        (fun _ _ _ _ _ => pg_name (i := 2) scBegun.nd rfl (Or.inl rfl))
        (fun _ _ _ _ _ => pts_one (pt_cmpR op_ge (pe_callB call_abs (by rfl) B.abs (by decide +kernel) (pa_cons (pv 2) pa_nil)) (pe_op op_pow pe_int pe_int) (nomark _)))
        (fun _ _ _ _ _ => pe_op op_sub (pe_callB call_abs (by rfl) B.abs (by decide +kernel) (pa_cons (pv 2) pa_nil)) (pe_op op_pow pe_int pe_int)))
      (pss_one (ps_ret (pe_disp (pps_cons pe_str (pv 1) (pps_cons pe_str pe_int (pps_cons pe_str (pe_lc (own := [("_law_grain", 2)]) (g := gName 2) (tt := tYes) rfl scBegun.nd (pi_list (pv 0)) (blkOk_by (N := ["_law_script", "_law_large", "_law_grain"]) (sc := defScope (topS 31)) (by decide +kernel))
        (fun _ _ _ _ _ => pg_name (i := 2) scBegun.nd rfl (Or.inl rfl)) (fun _ _ _ _ _ => pts_nil) (fun _ _ _ _ _ => pe_callB call_abs (by rfl) B.abs (by decide +kernel) (pa_cons (pv 2) pa_nil)))
        (pps_cons pe_str pe_int pps_nil)))) (by rfl) (by rfl) (fun z => by cases z) (by decide)))), ?_⟩
    have cp : CPow 10 18 := ⟨by decide, by decide, by decide⟩
    refine ⟨_, rfl, a, rfl, ⟨_, hS⟩, fun l hl0 => ?_⟩
    refine lc_it (walk_list (K := K) (a := a) (xs := ns.map V.int)) (fun i H' => Same H H' ∧ ∃ ms : List Int, H' l = some (.lst (ms.map V.int)) ∧ ms.length ≤ i) ⟨same_new hl0, [], upd_same, Nat.le_refl _⟩ (fun i H' _ h => h.1.seq hS) ?_ ?_
    · rintro i y G G' hi ⟨sG, ms, hG, lG⟩ ⟨rfl, hy⟩
      obtain ⟨x, rfl, hx⟩ := int_at hy
      rw [List.length_map] at hi
      refine ⟨rfl, ?_⟩
      refine ⟨_, rfl, x, rfl, 10, 18, rfl, rfl, cp, _, _, rfl, rfl, _, rfl, ite2 (fun _ => ?_) (fun _ => ?_)⟩
      · refine ⟨_, rfl, x, rfl, 10, 18, rfl, rfl, cp, _, _, rfl, rfl, _, hG, ?_, fun b o e => ?_, ms ++ [(if x < 0 then -x else x) - 10 ^ (18 : Int).toNat], ?_, ?_⟩
        · rw [List.length_map]
          exact small1000 (by omega)
        · rw [upd_ne (ne_of_none e hl0)]
          exact sG b o e
        · rw [upd_same, List.map_append]
          rfl
        · rw [List.length_append]
          show ms.length + 1 ≤ i + 1
          omega
      · exact ⟨sG, ms, hG, by omega⟩
    · rintro G ⟨sG, ms, hG, lG⟩
      rw [List.length_map] at lG
      intro p hp
      have sp : Same G (upd G p (.dK [])) := same_new hp
      have up : upd G p (.dK []) p = some (.dK []) := upd_same
      have pl : p ≠ l := fun z => by
        rw [z] at hp
        exact nomatch hp.symm.trans hG
      generalize upd G p (.dK []) = G1 at sp up ⊢
      have s1 := sG.trans sp
      refine ⟨_, rfl, _, rfl, a, rfl, ⟨_, s1.seq hS⟩, fun c hc => ?_⟩
      have hl1 := sp _ _ hG
      refine lc_it (walk_list (K := K) (a := a) (xs := ns.map V.int)) (fun i H' => Same G1 H' ∧ ∃ zs : List Int, H' c = some (.lst (zs.map V.int)) ∧ zs.length ≤ i) ⟨same_new hc, [], upd_same, Nat.le_refl _⟩ (fun i H' _ h => h.1.seq (s1.seq hS)) ?_ ?_
      · rintro i y M M' hi ⟨sM, zs, hM, lM⟩ ⟨rfl, hy⟩
        obtain ⟨x, rfl, hx⟩ := int_at hy
        rw [List.length_map] at hi
        refine ⟨rfl, yes_in ?_⟩
        refine ⟨_, rfl, x, rfl, _, hM, ?_, fun b o e => ?_, zs ++ [if x < 0 then -x else x], ?_, ?_⟩
        · rw [List.length_map]
          exact small1000 (by omega)
        · rw [upd_ne (ne_of_none e hc)]
          exact sM b o e
        · rw [upd_same, List.map_append]
          rfl
        · rw [List.length_append]
          show zs.length + 1 ≤ i + 1
          omega
      · rintro M ⟨sM, zs, hM, lM⟩
        rw [List.length_map] at lM
        have lc : l ≠ c := ne_of_none hl1 hc
        have pc : c ≠ p := fun z => ne_of_none up hc z.symm
        refine ⟨sM _ _ up, dk l c 0 0, rfl, by show 4 ≤ 15; decide, ?_⟩
        refine k _ p l c (fun b o e => ?_) ⟨lc, ⟨0, 0, upd_same⟩, ⟨ms, ?_, by omega⟩, ⟨zs, ?_, by omega⟩⟩
        · have nb : b ≠ p := fun z => by
            rw [z] at e
            exact ne_of_none (sG _ _ e) hp rfl
          rw [upd_ne nb]
          exact sM _ _ (s1 _ _ e)
        · rw [upd_ne (Ne.symm pl)]
          exact sM _ _ hl1
        · rw [upd_ne pc]
          exact hM
end
end K9

set_option Elab.async false
set_option linter.all false
set_option maxRecDepth 100000
set_option maxHeartbeats 1000000
/-! _law_form_holds -/
namespace K9
open PySem PySem.Spec PyProof.Rows L2
theorem log_few {i : Int} (h0 : 0 ≤ i) (h1 : i < 100) : i.natAbs.log2 < 1920 := by
  by_cases z : i.natAbs = 0
  · rw [z]
    decide
  · exact Nat.lt_trans ((Nat.log2_lt z).mpr (show i.natAbs < 2 ^ 7 by omega)) (by decide)
theorem led_nil {p q : Int} {n i : Nat} : Led p q n i [] [] := ⟨⟨fun kv hm => (nomatch hm), fun kv hm => (nomatch hm), .nil⟩, fun h => rfl, Nat.le_refl _⟩
/-- exchanged(..) if it isn't {} else {} -/
theorem exch_or {σ : L2.St} {H : Hp} {Q : VK} {j : Nat} {a : Addr} {p q : Int} {n i : Nat} {d : Sm} (h1 : σ[1]? = some (some (.int p))) (h2 : σ[2]? = some (some (.int q))) (h3 : σ[j]? = some (some (.ref a))) (h7 : σ[7]? = some (some (.int (i : Int))))
    (hp : p ∈ primes) (hq : 0 < q) (hqp : q < p) (ha : SumAt H a d) (c : Canon cd p n d) (hi : i + 1 < n) (hn : n ≤ 7) (hl : d.length ≤ 31)
    (k : ∀ (G : Hp) (r : Addr) (e : Sm), Same H G → SumAt G r e → Led p q n i d e → Q (.ref r) G) :
    tIf (tTest (tOp rNeD (tVar j) tDNewT)) (tCall spExch [] E0 (tCons (tVar 1) (tCons (tVar 2) (tCons (tVar j) (tCons (tVar 7) tNil))))) tDNewT σ H Q := by
  refine ⟨.ref a, h3, fun e0 he0 => ?_⟩
  have s0 : Same H (upd H e0 (.dT [])) := same_new he0
  have u0 : SumAt (upd H e0 (.dT [])) e0 [] := upd_same
  generalize upd H e0 (.dT []) = G at s0 u0 ⊢
  refine ⟨a, e0, d, [], rfl, rfl, s0 _ _ ha, u0, ?_⟩
  cases d with
  | nil =>
    refine .inl ⟨rfl, _, rfl, iteF ?_⟩
    intro r hr
    exact k _ r [] (s0.trans (same_new hr)) upd_same led_nil
  | cons x d =>
    refine .inr ⟨Nat.succ_ne_zero _, _, rfl, iteT ?_⟩
    refine ⟨_, h1, _, h2, _, h3, _, h7, p, q, a, i, x :: d, n, rfl, hp, hq, hqp, s0 _ _ ha, c.sum, List.cons_ne_nil _ _, hi, hn, hl, fun H' r e s1 _ hr' le => ?_⟩
    exact k H' r e (s0.trans s1) hr' le
def kwOrder {α : Type} : List α → List α → List α
  | [], [a, b, c, d] => [d, c, b, a]
  | _, _ => []
theorem form_kw {K : PySem.W.Frag} {f : Addr} {fd : FuncData} (F : Fun K "word_form" "word_form" (topS 29) f fd) : KBinds K fd ["prime", "q", "one", "other"] ["other", "one", "q", "prime"] kwOrder kwOrder := by
  obtain ⟨oc, od, kV, doc, pm, an, cdv, ct, osl, rfl, lk, hcd⟩ := F.ex
  refine ⟨fun s us ws _ hl => ?_, fun {vs us zs ws} r rz => ?_⟩
  · match us, ws, hl with
    | [], [a, b, c, d], _ => exact .of_eq rfl
  · cases r with
    | nil =>
      match zs, ws, rz with
      | [], _, .nil => exact .nil
      | [_], _, .cons _ .nil => exact .nil
      | [_, _], _, .cons _ (.cons _ .nil) => exact .nil
      | [_, _, _], _, .cons _ (.cons _ (.cons _ .nil)) => exact .nil
      | [_, _, _, _], _, .cons r1 (.cons r2 (.cons r3 (.cons r4 .nil))) => exact .cons r4 (.cons r3 (.cons r2 (.cons r1 .nil)))
      | _ :: _ :: _ :: _ :: _ :: _, _, .cons _ (.cons _ (.cons _ (.cons _ (.cons _ _)))) => exact .nil
    | cons _ _ => exact .nil
theorem DrawAt.neL {H : Hp} {d l c b : Addr} {o : HO} (D : DrawAt H d l c) (hb : H b = some o) (no : ∀ xs, o ≠ .lst xs) : b ≠ l := fun z => by
  obtain ⟨ns, h, _⟩ := D.lg
  rw [z, h] at hb
  exact no _ (Option.some.inj hb).symm
theorem keep_sum {H H' : Hp} {d l c a : Addr} {e : Sm} (k : Keep d l H H') (D : DrawAt H d l c) (h : SumAt H a e) : SumAt H' a e := k.new D h (fun _ z => nomatch z) (D.neL h fun _ z => nomatch z)
def spHolds : Sp := fun vs H Q _ => ∃ (d l c a : Addr) (p q : Int) (one : Sm) (n : Nat), vs = [.ref d, .int p, .int q, .ref a, .int (n : Int)] ∧ DrawAt H d l c ∧ p ∈ primes ∧ 0 < q ∧ q < p ∧ SumAt H a one ∧ Canon cd p n one ∧ one.length ≤ 4 ∧ 1 ≤ n ∧ n ≤ 7 ∧
  ∀ H', Keep d l H H' → DrawAt H' d l c → Q (.bl true) H'
section
variable {P : Program} {w : World} {K : PySem.W.Frag} {mg : Str → Option Value} {base : Heap}
theorem scHolds : FnScope ["_law_draw", "_law_field", "_law_q_here", "_law_one", "_law_many", "_law_other", "_law_due", "_law_place", "_law_left", "_law_right"] ["_law_draw", "_law_field", "_law_q_here", "_law_one", "_law_many"] (defScope (topS 42)) := ⟨rfl, rfl, rfl, by decide +kernel, rfl, by decide +kernel, by decide +kernel⟩
theorem ok_holds {f f1 f2 f3 f4 f5 f6 : Addr} {fd fd1 fd2 fd3 fd4 fd5 fd6 : FuncData} (F : Fun K "_law_form_holds" "_law_form_holds" (topS 42) f fd) (B : Bl mg) (DT : Dn P w K mg base 2 "_law_take" ["_law_draw", "_law_amount"] spTake f1 fd1)
    (DD : Dn P w K mg base 4 "_law_drawn_sum" ["_law_draw", "_law_field", "_law_many"] spDrawn f2 fd2) (DM : Dn P w K mg base 2 "_law_mixed_rows" ["_law_field", "_law_numbers_here", "_law_rows"] spMix f3 fd3)
    (DL : Dn P w K mg base 2 "_law_form" ["_law_field", "_law_q_here", "_law_one", "_law_other"] spFormOf f4 fd4) (DF : Dn P w K mg base 5 "word_form" ["prime", "q", "one", "other"] spForm f5 fd5) (DK : KBinds K fd5 ["prime", "q", "one", "other"] ["other", "one", "q", "prime"] kwOrder kwOrder)
    (DE : Dn P w K mg base 5 "exchanged" ["prime", "q", "words", "place"] spExch f6 fd6) : FnOk P w K mg base CX0 6 f fd ["_law_draw", "_law_field", "_law_q_here", "_law_one", "_law_many"] spHolds := by
  refine F.ok scHolds (fun vs H Q E h => ?_) (fun cdv A outer s H vs Q E hr h => ?_)
  · obtain ⟨d, l, c, a, p, q, one, n, rfl, _⟩ := h
    rfl
  · obtain ⟨d, l, c, a, p, q, one, n, rfl, D, hp, hq, hqp, ha, c1, l4, hn1, hn, k⟩ := h
    have hu6 := hr.units
    have pp := primes_pos hp
    refine ⟨_, pss_cons (ps_set (i := 5) scHolds.nd rfl (.inl rfl) (pe_call DM.ok (hr.mono (by decide)) (by rfl) DM.g DM.kp DM.b .nil pass0 (pa_cons (pv 1) (pa_cons (pe_lst (pa_cons pe_int (pa_cons (pe_op op_add pe_int (pe_call DT.ok (hr.mono (by decide)) (by rfl) DT.g DT.kp DT.b .nil pass0 (pa_cons (pv 0) (pa_cons (pv 1) pa_nil)))) pa_nil)))
          (pa_cons (pe_lst (pa_cons (pe_call DD.ok (hr.mono (by decide)) (by rfl) DD.g DD.kp DD.b .nil pass0 (pa_cons (pv 0) (pa_cons (pv 1) (pa_cons (pv 4) pa_nil)))) (pa_cons (pv 3) pa_nil))) pa_nil)))))
      (pss_cons (ps_set (i := 6) scHolds.nd rfl (.inl rfl) (pe_call DL.ok (hr.mono (by decide)) (by rfl) DL.g DL.kp DL.b .nil pass0 (pa_cons (pv 1) (pa_cons (pv 2) (pa_cons (pv 3) (pa_cons (pv 5) pa_nil))))))
      (pss_cons (ps_if (PW.pt (pw_or (pt_cmpR op_ne (pe_callB SkE.call_repr_int (by rfl) B.repr (by decide +kernel) (pa_cons (pe_call DF.ok hr (by rfl) DF.g DF.kp DF.b .nil pass0 (pa_cons (pv 1) (pa_cons (pv 2) (pa_cons (pv 3) (pa_cons (pv 5) pa_nil))))) pa_nil)) (pe_callB SkE.call_repr_int (by rfl) B.repr (by decide +kernel) (pa_cons (pv 6) pa_nil)) (nomark _))
          (pw_or1 (pt_cmpR op_ne (pe_callK0 DF.ok hr (by rfl) DF.g DF.kp DK pass0 (pk_cons (pv 3) (pk_cons (pv 5) (pk_cons (pv 2) (pk_cons (pv 1) pk_nil))))) (pv 6) (nomark _))))) (pss_one (ps_ret pe_bl)) pss_nil)
      (pss_cons (ps_for PassesOwn.never rfl (pi_range1 (by rfl) B.range (pa_cons (pe_op op_sub (pv 4) pe_int) pa_nil)) (pg_name (i := 7) scHolds.nd rfl (Or.inl rfl))
        (pss_cons (ps_set (i := 8) scHolds.nd rfl (.inl rfl) (pe_call DF.ok hr (by rfl) DF.g DF.kp DF.b .nil pass0 (pa_cons (pv 1) (pa_cons (pv 2) (pa_cons (pe_ifExp (pt_cmpR (K9.op_neD hu6) (pv 3) pe_dnewT (nomark _)) (pe_call DE.ok hr (by rfl) DE.g DE.kp DE.b .nil pass0 (pa_cons (pv 1) (pa_cons (pv 2) (pa_cons (pv 3) (pa_cons (pv 7) pa_nil))))) pe_dnewT) (pa_cons (pv 5) pa_nil))))))
        (pss_cons (ps_set (i := 9) scHolds.nd rfl (.inl rfl) (pe_call DF.ok hr (by rfl) DF.g DF.kp DF.b .nil pass0 (pa_cons (pv 1) (pa_cons (pv 2) (pa_cons (pv 3) (pa_cons (pe_ifExp (pt_cmpR (K9.op_neD hu6) (pv 5) pe_dnewT (nomark _)) (pe_call DE.ok hr (by rfl) DE.g DE.kp DE.b .nil pass0 (pa_cons (pv 1) (pa_cons (pv 2) (pa_cons (pv 5) (pa_cons (pv 7) pa_nil))))) pe_dnewT) pa_nil))))))
        (pss_one (ps_if (pt_cmpR op_ne (pv 8) (pv 9) (nomark _)) (pss_one (ps_ret pe_bl)) pss_nil)))))
      (pss_one (ps_ret pe_bl))))), ?_⟩
    -- other = ..
    refine ⟨_, rfl, _, rfl, _, rfl, d, l, c, p, rfl, D, by omega, by omega, fun H1 v k1 D1 v0 v1 => ⟨1, v, rfl, rfl, by show 2 ≤ sizeLine; decide, fun a1 n1 => ?_⟩⟩
    have s1 : Same H1 (upd H1 a1 (.lst [V.int 1, V.int (1 + v)])) := same_new n1
    have u1 : upd H1 a1 (.lst [V.int 1, V.int (1 + v)]) a1 = some (.lst [V.int 1, V.int (1 + v)]) := upd_same
    have k1' := k1.trans (Keep.of s1)
    have D1' := D1.same s1
    have al1 := (D1.free n1).2
    generalize upd H1 a1 (.lst [V.int 1, V.int (1 + v)]) = G1 at s1 u1 k1' D1' ⊢
    refine ⟨_, rfl, _, rfl, _, rfl, d, l, c, p, n, rfl, D1', hp, hn1, hn, fun H3 r1 e1 k3 D3 nr1 hr1 se1 ne1 le1 => ⟨_, rfl, by show 2 ≤ sizeLine; decide, fun a2 n2 => ?_⟩⟩
    have s3 : Same H3 (upd H3 a2 (.lst [V.ref r1, V.ref a])) := same_new n2
    have u2 : upd H3 a2 (.lst [V.ref r1, V.ref a]) a2 = some (.lst [V.ref r1, V.ref a]) := upd_same
    have D3' := D3.same s3
    have k3' := k1'.trans (k3.trans (Keep.of s3))
    have ha3 : SumAt (upd H3 a2 (.lst [V.ref r1, V.ref a])) a one := keep_sum k3' D ha
    have hr3 : SumAt (upd H3 a2 (.lst [V.ref r1, V.ref a])) r1 e1 := s3 _ _ hr1
    have ua3 : upd H3 a2 (.lst [V.ref r1, V.ref a]) a1 = some (.lst [V.int 1, V.int (1 + v)]) := s3 _ _ (k3.new D1' u1 (fun _ z => nomatch z) al1)
    generalize upd H3 a2 (.lst [V.ref r1, V.ref a]) = G3 at u2 D3' k3' ha3 hr3 ua3 ⊢
    refine ⟨p, a1, a2, [r1, a], [(1, e1), (1 + v, one)], n, rfl, by omega, ua3, u2, .cons ⟨hr3, se1, by show -(2 ^ 64) < (1 : Int) ∧ (1 : Int) < 2 ^ 64; decide⟩ (.cons ⟨ha3, c1.sum, by show -(2 ^ 64) < 1 + v ∧ 1 + v < 2 ^ 64; omega⟩ .nil), hn1, ?_, fun H5 r5 e5 s5 _ hr5 mix => ?_⟩
    · show e1.length + (one.length + 0) < 64
      omega
    · have l5 : e5.length ≤ 8 := by
        have z : e5.length ≤ e1.length + (one.length + 0) := mix.2.2
        omega
      have c5 := mix.1
      have k5 := k3'.trans (Keep.of s5)
      have D5 := D3'.same s5
      have ha5 : SumAt H5 a one := s5 _ _ ha3
      clear k1 k1' k3 k3' s1 s3 s5 u1 u2 ua3 n1 n2 D1 D1' D3 D3'
      -- due
      refine ⟨_, rfl, _, rfl, _, rfl, _, rfl, p, q, a, r5, one, e5, n, rfl, by omega, by omega, by omega, ha5, hr5, c1, c5, hn, fun H6 s6 => ?_⟩
      have ha6 := s6 _ _ ha5
      have hr6 : SumAt H6 r5 e5 := s6 _ _ hr5
      have f0 := Int.emod_nonneg (fm p q one e5) (show p ≠ 0 by omega)
      have f1 := Int.emod_lt_of_pos (fm p q one e5) (show 0 < p by omega)
      have lg := log_few f0 (by omega)
      -- the two tests
      refine ⟨_, rfl, _, rfl, _, rfl, _, rfl, p, q, a, r5, one, e5, n, rfl, hp, hq, hqp, ha6, hr6, c1, c5, hn, by omega, by omega, fun H7 s7 => ?_⟩
      have ha7 := s7 _ _ ha6
      have hr7 : SumAt H7 r5 e5 := s7 _ _ hr6
      refine ⟨_, rfl, lg, _, rfl, _, rfl, lg, rfl, _, rfl, iteNS rfl ?_⟩
      refine ⟨_, rfl, _, rfl, _, rfl, _, rfl, p, q, r5, a, e5, one, n, rfl, hp, hq, hqp, hr7, ha7, c5, c1, hn, by omega, by omega, fun H8 s8 => ?_⟩
      have ha8 := s8 _ _ ha7
      have hr8 : SumAt H8 r5 e5 := s8 _ _ hr7
      have k8 := k5.trans (Keep.of (s6.trans (s7.trans s8)))
      have D8 := D5.same (s6.trans (s7.trans s8))
      refine ⟨_, rfl, rfl, _, rfl, iteFe ?_ ?_⟩
      · rw [fm_comm c5.sum.nd c1.sum.nd]
        show (!decide (V.int (fm p q one e5 % p) = V.int (fm p q one e5 % p))) = false
        rw [decide_eq_true rfl]
        rfl
      -- the places
      refine ⟨_, rfl, (n : Int), 1, rfl, rfl, (n : Int) - 1, rfl, by omega, by omega, ?_⟩
      refine for_it (walk_range (lo := 0) (n := ((n : Int) - 1).toNat)) (fun j σ H' => ∃ (y7 y8 y9 : Option V), σ = [some (.ref d), some (.int p), some (.int q), some (.ref a), some (.int (n : Int)), some (.ref r5), some (.int (fm p q one e5 % p)), y7, y8, y9] ∧ Same H8 H')
        ⟨none, none, none, rfl, Same.refl _⟩ (fun j σ H' _ _ => True.intro) ?_ ?_
      · rintro j y σ G G' hj ⟨y7, y8, y9, rfl, sG⟩ ⟨rfl, hy⟩
        have hy' : y = V.int (j : Int) := by
          rw [hy]
          show V.int (0 + (j : Int)) = _
          rw [Int.zero_add]
        subst hy'
        have hi : j + 1 < n := by omega
        have haG : SumAt G' a one := sG _ _ ha8
        have hrG : SumAt G' r5 e5 := sG _ _ hr8
        refine ⟨_, rfl, _, rfl, exch_or rfl rfl rfl rfl hp hq hqp haG c1 hi hn (by omega) fun G1 x1 g1 t1 hx1 led1 => ?_⟩
        have lx1 := led1.2.2
        refine ⟨_, rfl, p, q, x1, r5, g1, e5, n, rfl, hp, hq, hqp, hx1, t1 _ _ hrG, led1.1, c5, hn, by omega, by omega, fun G2 t2 => ?_⟩
        have t12 := t1.trans t2
        have haG2 : SumAt G2 a one := t12 _ _ haG
        have hrG2 : SumAt G2 r5 e5 := t12 _ _ hrG
        refine ⟨_, rfl, _, rfl, _, rfl, exch_or rfl rfl rfl rfl hp hq hqp hrG2 c5 hi hn (by omega) fun G3 x2 g2 t3 hx2 led2 => ?_⟩
        have lx2 := led2.2.2
        refine ⟨p, q, a, x2, one, g2, n, rfl, hp, hq, hqp, t3 _ _ haG2, hx2, c1, led2.1, hn, by omega, by omega, fun G4 t4 => ?_⟩
        have eq : fm p q g1 e5 % p = fm p q one g2 % p := law_adj c1.sum c5.sum led2.1.sum hi led1.2.1 led2.2.1
        refine ⟨_, rfl, _, rfl, rfl, _, rfl, iteFe ?_ ?_⟩
        · rw [eq]
          show (!decide (V.int (fm p q one g2 % p) = V.int (fm p q one g2 % p))) = false
          rw [decide_eq_true rfl]
          rfl
        · exact ⟨_, _, _, rfl, sG.trans (t12.trans (t3.trans t4))⟩
      · rintro σ G ⟨y7, y8, y9, rfl, sG⟩
        exact k G (k8.trans (Keep.of sG)) (D8.same sG)
end
end K9

set_option Elab.async false
set_option linter.all false
set_option maxRecDepth 100000
set_option maxHeartbeats 2000000
/-! the law -/
namespace K9
open PySem PySem.Spec PyProof.Rows L2
def spLaw (K : PySem.W.Frag) : Sp := fun vs H Q _ => ∃ (a : Addr) (ns : List Int), vs = [.ref a] ∧ SqL K H a (ns.map V.int) ∧ ns.length ≤ 63 ∧ ∀ H', Q (.bl true) H'
section
variable {P : Program} {w : World} {K : PySem.W.Frag} {mg : Str → Option Value} {base : Heap}
theorem scLaw : FnScope ["_law_script", "_law_draw", "_law_turn", "_law_bend_here", "_law_field", "_law_q_here", "_law_many", "_law_some", "_law_i", "_law_twice", "_law_j", "_law_one", "_law_other"] ["_law_script"] (defScope (topS 43)) := ⟨rfl, rfl, rfl, by decide +kernel, rfl, by decide +kernel, by decide +kernel⟩
theorem ok_law {f f1 f2 f3 f4 f5 f6 f7 f8 f9 : Addr} {fd fd1 fd2 fd3 fd4 fd5 fd6 fd7 fd8 fd9 : FuncData} (F : Fun K "law" "law" (topS 43) f fd) (B : Bl mg) (DB : Dn P w K mg base 1 "_law_begun" ["_law_script"] (spBegun K) f1 fd1)
    (DN : Dn P w K mg base 4 "_law_bend" ["_law_draw"] spBd f2 fd2) (DT : Dn P w K mg base 2 "_law_take" ["_law_draw", "_law_amount"] spTake f3 fd3) (DD : Dn P w K mg base 4 "_law_drawn_sum" ["_law_draw", "_law_field", "_law_many"] spDrawn f4 fd4)
    (DA : Dn P w K mg base 5 "led_along" ["prime", "q", "words", "route"] spAlong f5 fd5) (DE : Dn P w K mg base 5 "exchanged" ["prime", "q", "words", "place"] spExch f6 fd6) (DM : Dn P w K mg base 2 "_law_mixed_rows" ["_law_field", "_law_numbers_here", "_law_rows"] spMix f7 fd7)
    (DR : Dn P w K mg base 1 "_law_trim" ["_law_field", "_law_some"] spPlain f8 fd8) (DH : Dn P w K mg base 6 "_law_form_holds" ["_law_draw", "_law_field", "_law_q_here", "_law_one", "_law_many"] spHolds f9 fd9) :
    FnOk P w K mg base CX0 7 f fd ["_law_script"] (spLaw K) := by
  refine F.ok scLaw (fun vs H Q E h => ?_) (fun cdv A outer s H vs Q E hr h => ?_)
  · obtain ⟨a, ns, rfl, _⟩ := h
    rfl
  · obtain ⟨a, ns, rfl, hS, hlen, k⟩ := h
    have hu6 := hr.units
    refine ⟨_, pss_cons (ps_set (i := 1) scLaw.nd rfl (.inl rfl) (pe_call DB.ok (hr.mono (by decide)) (by rfl) DB.g DB.kp DB.b .nil pass0 (pa_cons (pv 0) pa_nil)))
      (pss_cons (ps_for PassesOwn.never rfl (pi_range1 (by rfl) B.range (pa_cons (pe_op op_add pe_int (pe_callB (call_min2 rfl) (by rfl) B.min (by decide +kernel) (pa_cons (pe_callB (cr_len (K := K) rfl) (by rfl) B.len PySem.boot_len (pa_cons (pv 0) pa_nil)) (pa_cons pe_int pa_nil)))) pa_nil)) (pg_name (i := 2) scLaw.nd rfl (Or.inl rfl))
        (pss_cons (ps_set (i := 3) scLaw.nd rfl (.inl rfl) (pe_call DN.ok (hr.mono (by decide)) (by rfl) DN.g DN.kp DN.b .nil pass0 (pa_cons (pv 1) pa_nil)))
        (pss_cons (ps_par3 (i := 4) (j := 5) (l := 6) rfl scLaw.nd rfl rfl rfl (by decide) (by decide) (by decide) rfl rfl rfl (pa_cons (pe_ix ix_tup (pv 3) pe_int (fun _ _ => rfl)) (pa_cons (pe_ix ix_tup (pv 3) pe_int (fun _ _ => rfl))
            (pa_cons (pe_op op_add pe_int (pe_call DT.ok (hr.mono (by decide)) (by rfl) DT.g DT.kp DT.b .nil pass0 (pa_cons (pv 1) (pa_cons pe_int pa_nil)))) pa_nil))) (by rfl))
        (pss_cons (ps_set (i := 7) scLaw.nd rfl (.inl rfl) (pe_call DD.ok (hr.mono (by decide)) (by rfl) DD.g DD.kp DD.b .nil pass0 (pa_cons (pv 1) (pa_cons (pv 4) (pa_cons (pv 6) pa_nil)))))
        (pss_cons (ps_for PassesOwn.never rfl (pi_range1 (by rfl) B.range (pa_cons (pe_op op_sub (pv 6) pe_int) pa_nil)) (pg_name (i := 8) scLaw.nd rfl (Or.inl rfl))
          (pss_cons (ps_set (i := 9) scLaw.nd rfl (.inl rfl) (pe_call DA.ok (hr.mono (by decide)) (by rfl) DA.g DA.kp DA.b .nil pass0 (pa_cons (pv 4) (pa_cons (pv 5) (pa_cons (pv 7) (pa_cons (pe_lst (pa_cons (pv 8) (pa_cons (pv 8) pa_nil))) pa_nil))))))
          (pss_cons (ps_if (pt_cmpR (K9.op_neD hu6) (pv 9) (pe_call DM.ok (hr.mono (by decide)) (by rfl) DM.g DM.kp DM.b .nil pass0 (pa_cons (pv 4) (pa_cons (pe_lst (pa_cons (pv 5) (pa_cons (pe_op op_sub (pv 5) pe_int) pa_nil)))
              (pa_cons (pe_lst (pa_cons (pv 7) (pa_cons (pe_call DE.ok (hr.mono (by decide)) (by rfl) DE.g DE.kp DE.b .nil pass0 (pa_cons (pv 4) (pa_cons (pv 5) (pa_cons (pv 7) (pa_cons (pv 8) pa_nil))))) pa_nil))) pa_nil)))) (nomark _)) (pss_one (ps_ret pe_bl)) pss_nil)
          (pss_one (ps_for PassesOwn.never rfl (pi_range1 (by rfl) B.range (pa_cons (pv 8) pa_nil)) (pg_name (i := 10) scLaw.nd rfl (Or.inl rfl))
            (C8.pss_cut (ps_asg (pe_ifExp (pt_cmpR op_eq (pe_op op_sub (pv 8) (pv 10)) pe_int (nomark _))
                (pe_tup (pa_cons (pe_lst (pa_cons (pv 8) (pa_cons (pv 10) (pa_cons (pv 8) pa_nil)))) (pa_cons (pe_lst (pa_cons (pv 10) (pa_cons (pv 8) (pa_cons (pv 10) pa_nil)))) pa_nil)))
                (pe_tup (pa_cons (pe_lst (pa_cons (pv 8) (pa_cons (pv 10) pa_nil))) (pa_cons (pe_lst (pa_cons (pv 10) (pa_cons (pv 8) pa_nil))) pa_nil))))
              (pg_tup rfl (pgs_cons (pg_name (i := 11) scLaw.nd rfl (Or.inl rfl)) (pgs_cons (pg_name (i := 12) scLaw.nd rfl (Or.inl rfl)) pgs_nil))))
            (pss_one (ps_if (pt_cmpR (K9.op_neD hu6) (pe_call DA.ok (hr.mono (by decide)) (by rfl) DA.g DA.kp DA.b .nil pass0 (pa_cons (pv 4) (pa_cons (pv 5) (pa_cons (pv 7) (pa_cons (pv 11) pa_nil)))))
              (pe_call DA.ok (hr.mono (by decide)) (by rfl) DA.g DA.kp DA.b .nil pass0 (pa_cons (pv 4) (pa_cons (pv 5) (pa_cons (pv 7) (pa_cons (pv 12) pa_nil))))) (nomark _)) (pss_one (ps_ret pe_bl)) pss_nil))))))))
        (pss_one (ps_if (pt_not (pt_val (pe_call DH.ok hr (by rfl) DH.g DH.kp DH.b .nil pass0 (pa_cons (pv 1) (pa_cons (pv 4) (pa_cons (pv 5) (pa_cons (pe_call DR.ok (hr.mono (by decide)) (by rfl) DR.g DR.kp DR.b .nil pass0 (pa_cons (pv 4) (pa_cons (pv 7) pa_nil))) (pa_cons (pv 6) pa_nil))))))))
          (pss_one (ps_ret pe_bl)) pss_nil)))))))
      (pss_one (ps_ret pe_bl))), ?_⟩
    refine ⟨_, rfl, a, ns, rfl, hS, hlen, fun H1 d l c s1 D1 => ?_⟩
    have hS1 := s1.seq hS
    refine ⟨_, rfl, a, _, rfl, .inl hS1, (ns.map V.int).length, 4, rfl, ?_⟩
    refine ⟨1, _, rfl, rfl, 1 + _, rfl, by split <;> omega, by split <;> omega, ?_⟩
    refine for_it (walk_range (lo := 0)) (fun t σ G => ∃ (y2 y3 y4 y5 y6 y7 y8 y9 y10 y11 y12 : Option V), σ = [some (.ref a), some (.ref d), y2, y3, y4, y5, y6, y7, y8, y9, y10, y11, y12] ∧ DrawAt G d l c)
      ⟨none, none, none, none, none, none, none, none, none, none, none, rfl, D1⟩ (fun t σ G _ _ => True.intro) ?_ ?_
    · rintro t y σ G G' ht ⟨y2, y3, y4, y5, y6, y7, y8, y9, y10, y11, y12, rfl, DG⟩ ⟨rfl, rfl⟩
      -- bend
      refine ⟨_, rfl, d, l, c, rfl, DG, fun H2 r p q k2 D2 hr2 hp hq hqp => ?_⟩
      have pp := primes_pos hp
      have hT : SqT K H2 r [V.int p, V.int q] := .inl (.inl hr2)
      refine ⟨_, rfl, r, _, 0, V.int p, rfl, rfl, hT, atI_nat (j := 0) rfl, _, rfl, r, _, 1, V.int q, rfl, rfl, hT, atI_nat (j := 1) rfl, ?_⟩
      refine ⟨_, rfl, d, l, c, 7, rfl, D2, by decide, by decide, fun H3 v k3 D3 v0 v1 => ⟨1, v, rfl, rfl, _, _, _, rfl, ?_⟩⟩
      obtain ⟨n, en⟩ : ∃ n : Nat, 1 + v = (n : Int) := ⟨(1 + v).toNat, by omega⟩
      have hn1 : 1 ≤ n := by omega
      have hn : n ≤ 7 := by omega
      -- some
      refine ⟨_, rfl, _, rfl, _, rfl, d, l, c, p, n, ?_, D3, hp, hn1, hn, fun H4 r4 e4 k4 D4 nr4 hr4 se ne le => ?_⟩
      · show [V.ref d, V.int p, V.int (1 + v)] = _
        rw [en]
      -- the places
      refine ⟨_, rfl, 1 + v, 1, rfl, rfl, 1 + v - 1, rfl, by omega, by omega, ?_⟩
      refine for_it (walk_range (lo := 0) (n := (1 + v - 1).toNat)) (fun i σ G => ∃ (y8 y9 y10 y11 y12 : Option V), σ = [some (.ref a), some (.ref d), some (.int (0 + (t : Int))), some (.ref r), some (.int p), some (.int q), some (.int (1 + v)), some (.ref r4), y8, y9, y10, y11, y12] ∧ Same H4 G)
        ⟨y8, y9, y10, y11, y12, rfl, Same.refl _⟩ (fun i σ G _ _ => True.intro) ?_ ?_
      · rintro i y σ G1 G1' hi ⟨z8, z9, z10, z11, z12, rfl, sG⟩ ⟨rfl, hy⟩
        have hy' : y = V.int (i : Int) := by
          rw [hy]
          show V.int (0 + (i : Int)) = _
          rw [Int.zero_add]
        subst hy'
        have hin : i + 1 < n := by omega
        have hS4 : SumAt G1' r4 e4 := sG _ _ hr4
        -- twice
        refine ⟨_, rfl, _, rfl, _, rfl, _, rfl, _, rfl, by show 2 ≤ sizeLine; decide, fun la nla => ?_⟩
        have t1 : Same G1' (upd G1' la (.lst [V.int (i : Int), V.int (i : Int)])) := same_new nla
        refine ⟨p, q, r4, la, [i, i], e4, n, rfl, hp, hq, hqp, t1 _ _ hS4, se, ne, upd_same, ?_, hn1, hn, le, by show 2 ≤ 3; decide, fun G2 r9 e9 t2 _ hr9 led9 => ?_⟩
        · intro x hx
          simp only [List.mem_cons, List.not_mem_nil, or_false, or_self] at hx
          rw [hx]
          exact hin
        have t12 := t1.trans t2
        have hS5 : SumAt G2 r4 e4 := t12 _ _ hS4
        clear t1 t2
        -- against the mixture
        refine ⟨_, rfl, _, rfl, _, rfl, _, rfl, q, 1, rfl, rfl, by show 2 ≤ sizeLine; decide, fun a1 n1 => ?_⟩
        have u1 : Same G2 (upd G2 a1 (.lst [V.int q, V.int (q - 1)])) := same_new n1
        have w1 : upd G2 a1 (.lst [V.int q, V.int (q - 1)]) a1 = some (.lst [V.int q, V.int (q - 1)]) := upd_same
        generalize upd G2 a1 (.lst [V.int q, V.int (q - 1)]) = G3 at u1 w1 ⊢
        refine ⟨_, rfl, _, rfl, _, rfl, _, rfl, _, rfl, p, q, r4, i, e4, n, rfl, hp, hq, hqp, u1 _ _ hS5, se, ne, hin, hn, by omega, fun G4 rx ex u2 _ hrx ledx => ⟨by show 2 ≤ sizeLine; decide, fun a2 n2 => ?_⟩⟩
        have u3 : Same G4 (upd G4 a2 (.lst [V.ref r4, V.ref rx])) := same_new n2
        have w2 : upd G4 a2 (.lst [V.ref r4, V.ref rx]) a2 = some (.lst [V.ref r4, V.ref rx]) := upd_same
        generalize upd G4 a2 (.lst [V.ref r4, V.ref rx]) = G5 at u3 w2 ⊢
        have u23 := u2.trans u3
        have u123 := u1.trans u23
        have lx := ledx.2.2
        refine ⟨p, a1, a2, [r4, rx], [(q, e4), (q - 1, ex)], n, rfl, by omega, u23 _ _ w1, w2, .cons ⟨u123 _ _ hS5, se, by show -(2 ^ 64) < q ∧ q < 2 ^ 64; omega⟩ (.cons ⟨u3 _ _ hrx, ledx.1.sum, by show -(2 ^ 64) < q - 1 ∧ q - 1 < 2 ^ 64; omega⟩ .nil), hn1, ?_, fun G6 rm em u4 _ hrm mix => ?_⟩
        · show e4.length + (ex.length + 0) < 64
          omega
        have hr96 : SumAt G6 r9 e9 := u4 _ _ (u123 _ _ hr9)
        have sG6 := sG.trans (t12.trans (u123.trans u4))
        refine ⟨r9, rm, e9, em, rfl, rfl, hr96, hrm, .inl ⟨law_twice (by omega) se hin led9 ledx mix, _, rfl, iteF ?_⟩⟩
        clear u1 u2 u3 u4 u23 u123 w1 w2 n1 n2 hr96 hrm hrx hr9
        -- two places
        refine ⟨_, rfl, (i : Int), rfl, by omega, by omega, ?_⟩
        refine for_it (walk_range (lo := 0) (n := (i : Int).toNat)) (fun j σ G => ∃ (y10 y11 y12 : Option V), σ = [some (.ref a), some (.ref d), some (.int (0 + (t : Int))), some (.ref r), some (.int p), some (.int q), some (.int (1 + v)), some (.ref r4), some (.int (i : Int)), some (.ref r9), y10, y11, y12] ∧ Same H4 G)
          ⟨z10, z11, z12, rfl, sG6⟩ (fun j σ G _ _ => True.intro) ?_ ?_
        · rintro j y σ M M' hj ⟨x10, x11, x12, rfl, sM⟩ ⟨rfl, hy⟩
          have hy' : y = V.int (j : Int) := by
            rw [hy]
            show V.int (0 + (j : Int)) = _
            rw [Int.zero_add]
          subst hy'
          have hji : j < i := by omega
          refine ⟨fun σ' M' => ∃ (b1 b2 : Addr) (rt1 rt2 : List Nat), σ' = [some (.ref a), some (.ref d), some (.int (0 + (t : Int))), some (.ref r), some (.int p), some (.int q), some (.int (1 + v)), some (.ref r4), some (.int (i : Int)), some (.ref r9), some (.int (j : Int)), some (.ref b1), some (.ref b2)] ∧ Same H4 M' ∧
            M' b1 = some (.lst (rtV rt1)) ∧ M' b2 = some (.lst (rtV rt2)) ∧ rt1.length ≤ 3 ∧ rt2.length ≤ 3 ∧ (∀ x ∈ rt1, x + 1 < n) ∧ (∀ x ∈ rt2, x + 1 < n) ∧ ∀ e f, LedR p q n rt1 e4 e → LedR p q n rt2 e4 f → e = f, ?_, ?_⟩
          · have two : ∀ (rt1 rt2 : List Nat) (T b1 b2 : Addr), M' b1 = none → upd M' b1 (.lst (rtV rt1)) b2 = none → upd (upd M' b1 (.lst (rtV rt1))) b2 (.lst (rtV rt2)) T = none →
                Same H4 (upd (upd (upd M' b1 (.lst (rtV rt1))) b2 (.lst (rtV rt2))) T (.tup [V.ref b1, V.ref b2])) ∧ (upd (upd (upd M' b1 (.lst (rtV rt1))) b2 (.lst (rtV rt2))) T (.tup [V.ref b1, V.ref b2])) b1 = some (.lst (rtV rt1)) ∧
                (upd (upd (upd M' b1 (.lst (rtV rt1))) b2 (.lst (rtV rt2))) T (.tup [V.ref b1, V.ref b2])) b2 = some (.lst (rtV rt2)) := fun rt1 rt2 T b1 b2 h1 h2 h3 => by
              have g1 := same_new (o := .lst (rtV rt1)) h1
              have g2 := same_new (o := .lst (rtV rt2)) h2
              have g3 := same_new (o := .tup [V.ref b1, V.ref b2]) h3
              exact ⟨sM.trans (g1.trans (g2.trans g3)), g3 _ _ (g2 _ _ upd_same), g3 _ _ upd_same⟩
            refine ⟨_, rfl, _, rfl, (i : Int), (j : Int), rfl, rfl, rfl, _, rfl, ite2 (fun e1 => ?_) (fun e1 => ?_)⟩
            · have e1 := V.int.inj (of_decide_eq_true e1)
              have ij : i = j + 1 := by omega
              refine ⟨_, rfl, _, rfl, _, rfl, by show 3 ≤ sizeLine; decide, fun b1 m1 => ⟨_, rfl, _, rfl, _, rfl, by show 3 ≤ sizeLine; decide, fun b2 m2 => ⟨by show 2 ≤ sizeLine; decide, fun T mT => ?_⟩⟩⟩
              obtain ⟨q1, q2, q3⟩ := two [i, j, i] [j, i, j] T b1 b2 m1 m2 mT
              refine ⟨T, [V.ref b1, V.ref b2], rfl, .inl (.inl upd_same), rfl, _, [V.ref b2], rfl, _, [], rfl, rfl, b1, b2, [i, j, i], [j, i, j], rfl, q1, q2, q3, Nat.le_refl 3, Nat.le_refl 3, ?_, ?_, ?_⟩
              · intro x hx
                simp only [List.mem_cons, List.not_mem_nil, or_false] at hx
                omega
              · intro x hx
                simp only [List.mem_cons, List.not_mem_nil, or_false] at hx
                omega
              · intro e f he hf
                rw [ij] at he hf
                exact law_braid (by omega) se (by omega) he hf
            · have ij : j + 2 ≤ i := by
                have : ¬ (i : Int) - (j : Int) = 1 := fun z => e1 (decide_eq_true (congrArg V.int z))
                omega
              refine ⟨_, rfl, _, rfl, by show 2 ≤ sizeLine; decide, fun b1 m1 => ⟨_, rfl, _, rfl, by show 2 ≤ sizeLine; decide, fun b2 m2 => ⟨by show 2 ≤ sizeLine; decide, fun T mT => ?_⟩⟩⟩
              obtain ⟨q1, q2, q3⟩ := two [i, j] [j, i] T b1 b2 m1 m2 mT
              refine ⟨T, [V.ref b1, V.ref b2], rfl, .inl (.inl upd_same), rfl, _, [V.ref b2], rfl, _, [], rfl, rfl, b1, b2, [i, j], [j, i], rfl, q1, q2, q3, Nat.le_succ 2, Nat.le_succ 2, ?_, ?_, ?_⟩
              · intro x hx
                simp only [List.mem_cons, List.not_mem_nil, or_false] at hx
                omega
              · intro x hx
                simp only [List.mem_cons, List.not_mem_nil, or_false] at hx
                omega
              · intro e f he hf
                exact law_apart (by omega) se ij hin he hf
          · rintro σ' M2 ⟨b1, b2, rt1, rt2, rfl, sM2, hb1, hb2, l1, l2, m1, m2, same⟩
            have hS6 : SumAt M2 r4 e4 := sM2 _ _ hr4
            refine ⟨_, rfl, _, rfl, _, rfl, _, rfl, p, q, r4, b1, rt1, e4, n, rfl, hp, hq, hqp, hS6, se, ne, hb1, m1, hn1, hn, le, l1, fun M3 x1 f1 u1 _ hx1 led1 => ?_⟩
            refine ⟨_, rfl, _, rfl, _, rfl, _, rfl, p, q, r4, b2, rt2, e4, n, rfl, hp, hq, hqp, u1 _ _ hS6, se, ne, u1 _ _ hb2, m2, hn1, hn, le, l2, fun M4 x2 f2 u2 _ hx2 led2 => ?_⟩
            refine ⟨x1, x2, f1, f2, rfl, rfl, u2 _ _ hx1, hx2, .inl ⟨same f1 f2 led1 led2, _, rfl, iteF ?_⟩⟩
            exact ⟨_, _, _, rfl, sM2.trans (u1.trans u2)⟩
        · rintro σ M ⟨x10, x11, x12, rfl, sM⟩
          exact ⟨_, _, _, _, _, rfl, sM⟩
      · rintro σ G1 ⟨z8, z9, z10, z11, z12, rfl, sG⟩
        have hS4 : SumAt G1 r4 e4 := sG _ _ hr4
        have D5 := D4.same sG
        refine ⟨_, rfl, _, rfl, _, rfl, _, rfl, _, rfl, p, r4, e4, n, rfl, by omega, .inl hS4, se, hn1, by omega, fun G2 rt et u1 _ hrt c1 _ c3 => ?_⟩
        refine ⟨_, rfl, d, l, c, rt, p, q, et, n, ?_, D5.same u1, hp, hq, hqp, hrt, c1, by omega, hn1, hn, fun G3 k5 D6 => ⟨_, rfl, iteF ?_⟩⟩
        · show [V.ref d, V.int p, V.int q, V.ref rt, V.int (1 + v)] = _
          rw [en]
        · exact ⟨_, _, _, _, _, _, _, _, _, _, _, rfl, D6⟩
    · rintro σ G ⟨y2, y3, y4, y5, y6, y7, y8, y9, y10, y11, y12, rfl, DG⟩
      exact k G
end
end K9

set_option Elab.async false
set_option linter.all false
set_option maxRecDepth 100000
/-! what the top has written, and the last theorem -/
namespace K9
open PySem PySem.Spec PyProof.Rows L2
theorem primes_at {K : PySem.W.Frag} {aP : Addr} {oc : Value} {od : Option Addr} {its : Array Value} {n : Nat} {sl : Array (Option Value)} (l : K.lookup aP = some ⟨oc, od, .seq its n, sl⟩) (c : oc = .type "tuple") (z : its.size ≤ sizeLine) (v : Vals (primes.map V.int) its.toList) (H : Hp) : SqT K H aP (primes.map V.int) :=
  .inr ⟨_, its, n, l, c, rfl, z, v⟩
set_option maxHeartbeats 4000000
theorem all_mk {l : PySem.W.OpenLaw} {w : World} {K : PySem.W.Frag} {h : Heap} {mg : Str → Option Value} {fa aP f7 f8 f9 f10 f12 f16 f17 f18 f19 f20 f21 f22 f23 f24 f25 f26 f27 f28 f29 f31 f32 f33 f34 f35 f36 f37 f38 f39 f40 f41 f42 f43 : Addr} (X : K.In h) (G : h.Ns mainGlobals mg) (hfa : mg "law" = some (.ref fa))
    {odP od7 od8 od9 od10 od12 od16 od17 od18 od19 od20 od21 od22 od23 od24 od25 od26 od27 od28 od29 od31 od32 od33 od34 od35 od36 od37 od38 od39 od40 od41 od42 od43 an7 an8 an9 an10 an12 an16 an17 an18 an19 an20 an21 an22 an23 an24 an25 an26 an27 an28 an29 an31 an32 an33 an34 an35 an36 an37 an38 an39 an40 an41 an42 an43 : Option Addr} {slP sl7 sl8 sl9 sl10 sl12 sl16 sl17 sl18 sl19 sl20 sl21 sl22 sl23 sl24 sl25 sl26 sl27 sl28 sl29 sl31 sl32 sl33 sl34 sl35 sl36 sl37 sl38 sl39 sl40 sl41 sl42 sl43 : Array (Option Value)} {ocP oc7 oc8 oc9 oc10 oc12 oc16 oc17 oc18 oc19 oc20 oc21 oc22 oc23 oc24 oc25 oc26 oc27 oc28 oc29 oc31 oc32 oc33 oc34 oc35 oc36 oc37 oc38 oc39 oc40 oc41 oc42 oc43 kV7 kV8 kV9 kV10 kV12 kV16 kV17 kV18 kV19 kV20 kV21 kV22 kV23 kV24 kV25 kV26 kV27 kV28 kV29 kV31 kV32 kV33 kV34 kV35 kV36 kV37 kV38 kV39 kV40 kV41 kV42 kV43 dc7 dc8 dc9 dc10 dc12 dc16 dc17 dc18 dc19 dc20 dc21 dc22 dc23 dc24 dc25 dc26 dc27 dc28 dc29 dc31 dc32 dc33 dc34 dc35 dc36 dc37 dc38 dc39 dc40 dc41 dc42 dc43 pm7 pm8 pm9 pm10 pm12 pm16 pm17 pm18 pm19 pm20 pm21 pm22 pm23 pm24 pm25 pm26 pm27 pm28 pm29 pm31 pm32 pm33 pm34 pm35 pm36 pm37 pm38 pm39 pm40 pm41 pm42 pm43 cd7 cd8 cd9 cd10 cd12 cd16 cd17 cd18 cd19 cd20 cd21 cd22 cd23 cd24 cd25 cd26 cd27 cd28 cd29 cd31 cd32 cd33 cd34 cd35 cd36 cd37 cd38 cd39 cd40 cd41 cd42 cd43 ct7 ct8 ct9 ct10 ct12 ct16 ct17 ct18 ct19 ct20 ct21 ct22 ct23 ct24 ct25 ct26 ct27 ct28 ct29 ct31 ct32 ct33 ct34 ct35 ct36 ct37 ct38 ct39 ct40 ct41 ct42 ct43 : Value} {itP : Array Value} {nP : Nat} {t1 t2 : Tok}
    (a7 : PySem.W.nsIn K mainGlobals "is_number" = some (some (.ref f7))) (l7 : K.lookup f7 = some ⟨oc7, od7, .func (PySem.W.fnOf "is_number" "is_number" (defArgs (topS 7)) (defBody (topS 7)) (defScope (topS 7)) .none kV7 dc7 pm7 an7 cd7 ct7), sl7⟩) (c7 : PySem.W.codeIn K cd7 "is_number" = true) (k7 : PySem.W.keepIn K (.ref f7) = true)
    (a8 : PySem.W.nsIn K mainGlobals "is_between" = some (some (.ref f8))) (l8 : K.lookup f8 = some ⟨oc8, od8, .func (PySem.W.fnOf "is_between" "is_between" (defArgs (topS 8)) (defBody (topS 8)) (defScope (topS 8)) .none kV8 dc8 pm8 an8 cd8 ct8), sl8⟩) (c8 : PySem.W.codeIn K cd8 "is_between" = true) (k8 : PySem.W.keepIn K (.ref f8) = true)
    (a9 : PySem.W.nsIn K mainGlobals "is_list" = some (some (.ref f9))) (l9 : K.lookup f9 = some ⟨oc9, od9, .func (PySem.W.fnOf "is_list" "is_list" (defArgs (topS 9)) (defBody (topS 9)) (defScope (topS 9)) .none kV9 dc9 pm9 an9 cd9 ct9), sl9⟩) (c9 : PySem.W.codeIn K cd9 "is_list" = true) (k9 : PySem.W.keepIn K (.ref f9) = true)
    (a10 : PySem.W.nsIn K mainGlobals "need_prime" = some (some (.ref f10))) (l10 : K.lookup f10 = some ⟨oc10, od10, .func (PySem.W.fnOf "need_prime" "need_prime" (defArgs (topS 10)) (defBody (topS 10)) (defScope (topS 10)) .none kV10 dc10 pm10 an10 cd10 ct10), sl10⟩) (c10 : PySem.W.codeIn K cd10 "need_prime" = true) (k10 : PySem.W.keepIn K (.ref f10) = true)
    (a12 : PySem.W.nsIn K mainGlobals "need_bend" = some (some (.ref f12))) (l12 : K.lookup f12 = some ⟨oc12, od12, .func (PySem.W.fnOf "need_bend" "need_bend" (defArgs (topS 12)) (defBody (topS 12)) (defScope (topS 12)) .none kV12 dc12 pm12 an12 cd12 ct12), sl12⟩) (c12 : PySem.W.codeIn K cd12 "need_bend" = true) (k12 : PySem.W.keepIn K (.ref f12) = true)
    (a16 : PySem.W.nsIn K mainGlobals "is_word" = some (some (.ref f16))) (l16 : K.lookup f16 = some ⟨oc16, od16, .func (PySem.W.fnOf "is_word" "is_word" (defArgs (topS 16)) (defBody (topS 16)) (defScope (topS 16)) .none kV16 dc16 pm16 an16 cd16 ct16), sl16⟩) (c16 : PySem.W.codeIn K cd16 "is_word" = true) (k16 : PySem.W.keepIn K (.ref f16) = true)
    (a17 : PySem.W.nsIn K mainGlobals "need_sum" = some (some (.ref f17))) (l17 : K.lookup f17 = some ⟨oc17, od17, .func (PySem.W.fnOf "need_sum" "need_sum" (defArgs (topS 17)) (defBody (topS 17)) (defScope (topS 17)) .none kV17 dc17 pm17 an17 cd17 ct17), sl17⟩) (c17 : PySem.W.codeIn K cd17 "need_sum" = true) (k17 : PySem.W.keepIn K (.ref f17) = true)
    (a18 : PySem.W.nsIn K mainGlobals "plain_sum" = some (some (.ref f18))) (l18 : K.lookup f18 = some ⟨oc18, od18, .func (PySem.W.fnOf "plain_sum" "plain_sum" (defArgs (topS 18)) (defBody (topS 18)) (defScope (topS 18)) .none kV18 dc18 pm18 an18 cd18 ct18), sl18⟩) (c18 : PySem.W.codeIn K cd18 "plain_sum" = true) (k18 : PySem.W.keepIn K (.ref f18) = true)
    (a19 : PySem.W.nsIn K mainGlobals "led_word" = some (some (.ref f19))) (l19 : K.lookup f19 = some ⟨oc19, od19, .func (PySem.W.fnOf "led_word" "led_word" (defArgs (topS 19)) (defBody (topS 19)) (defScope (topS 19)) .none kV19 dc19 pm19 an19 cd19 ct19), sl19⟩) (c19 : PySem.W.codeIn K cd19 "led_word" = true) (k19 : PySem.W.keepIn K (.ref f19) = true)
    (a20 : PySem.W.nsIn K mainGlobals "led_sum" = some (some (.ref f20))) (l20 : K.lookup f20 = some ⟨oc20, od20, .func (PySem.W.fnOf "led_sum" "led_sum" (defArgs (topS 20)) (defBody (topS 20)) (defScope (topS 20)) .none kV20 dc20 pm20 an20 cd20 ct20), sl20⟩) (c20 : PySem.W.codeIn K cd20 "led_sum" = true) (k20 : PySem.W.keepIn K (.ref f20) = true)
    (a21 : PySem.W.nsIn K mainGlobals "led_all" = some (some (.ref f21))) (l21 : K.lookup f21 = some ⟨oc21, od21, .func (PySem.W.fnOf "led_all" "led_all" (defArgs (topS 21)) (defBody (topS 21)) (defScope (topS 21)) .none kV21 dc21 pm21 an21 cd21 ct21), sl21⟩) (c21 : PySem.W.codeIn K cd21 "led_all" = true) (k21 : PySem.W.keepIn K (.ref f21) = true)
    (a22 : PySem.W.nsIn K mainGlobals "length_of" = some (some (.ref f22))) (l22 : K.lookup f22 = some ⟨oc22, od22, .func (PySem.W.fnOf "length_of" "length_of" (defArgs (topS 22)) (defBody (topS 22)) (defScope (topS 22)) .none kV22 dc22 pm22 an22 cd22 ct22), sl22⟩) (c22 : PySem.W.codeIn K cd22 "length_of" = true) (k22 : PySem.W.keepIn K (.ref f22) = true)
    (a23 : PySem.W.nsIn K mainGlobals "need_route" = some (some (.ref f23))) (l23 : K.lookup f23 = some ⟨oc23, od23, .func (PySem.W.fnOf "need_route" "need_route" (defArgs (topS 23)) (defBody (topS 23)) (defScope (topS 23)) .none kV23 dc23 pm23 an23 cd23 ct23), sl23⟩) (c23 : PySem.W.codeIn K cd23 "need_route" = true) (k23 : PySem.W.keepIn K (.ref f23) = true)
    (a24 : PySem.W.nsIn K mainGlobals "exchanged" = some (some (.ref f24))) (l24 : K.lookup f24 = some ⟨oc24, od24, .func (PySem.W.fnOf "exchanged" "exchanged" (defArgs (topS 24)) (defBody (topS 24)) (defScope (topS 24)) .none kV24 dc24 pm24 an24 cd24 ct24), sl24⟩) (c24 : PySem.W.codeIn K cd24 "exchanged" = true) (k24 : PySem.W.keepIn K (.ref f24) = true)
    (a25 : PySem.W.nsIn K mainGlobals "led_along" = some (some (.ref f25))) (l25 : K.lookup f25 = some ⟨oc25, od25, .func (PySem.W.fnOf "led_along" "led_along" (defArgs (topS 25)) (defBody (topS 25)) (defScope (topS 25)) .none kV25 dc25 pm25 an25 cd25 ct25), sl25⟩) (c25 : PySem.W.codeIn K cd25 "led_along" = true) (k25 : PySem.W.keepIn K (.ref f25) = true)
    (a26 : PySem.W.nsIn K mainGlobals "falls_of" = some (some (.ref f26))) (l26 : K.lookup f26 = some ⟨oc26, od26, .func (PySem.W.fnOf "falls_of" "falls_of" (defArgs (topS 26)) (defBody (topS 26)) (defScope (topS 26)) .none kV26 dc26 pm26 an26 cd26 ct26), sl26⟩) (c26 : PySem.W.codeIn K cd26 "falls_of" = true) (k26 : PySem.W.keepIn K (.ref f26) = true)
    (a27 : PySem.W.nsIn K mainGlobals "power" = some (some (.ref f27))) (l27 : K.lookup f27 = some ⟨oc27, od27, .func (PySem.W.fnOf "power" "power" (defArgs (topS 27)) (defBody (topS 27)) (defScope (topS 27)) .none kV27 dc27 pm27 an27 cd27 ct27), sl27⟩) (c27 : PySem.W.codeIn K cd27 "power" = true) (k27 : PySem.W.keepIn K (.ref f27) = true)
    (a28 : PySem.W.nsIn K mainGlobals "word_form_of" = some (some (.ref f28))) (l28 : K.lookup f28 = some ⟨oc28, od28, .func (PySem.W.fnOf "word_form_of" "word_form_of" (defArgs (topS 28)) (defBody (topS 28)) (defScope (topS 28)) .none kV28 dc28 pm28 an28 cd28 ct28), sl28⟩) (c28 : PySem.W.codeIn K cd28 "word_form_of" = true) (k28 : PySem.W.keepIn K (.ref f28) = true)
    (a29 : PySem.W.nsIn K mainGlobals "word_form" = some (some (.ref f29))) (l29 : K.lookup f29 = some ⟨oc29, od29, .func (PySem.W.fnOf "word_form" "word_form" (defArgs (topS 29)) (defBody (topS 29)) (defScope (topS 29)) .none kV29 dc29 pm29 an29 cd29 ct29), sl29⟩) (c29 : PySem.W.codeIn K cd29 "word_form" = true) (k29 : PySem.W.keepIn K (.ref f29) = true)
    (a31 : PySem.W.nsIn K mainGlobals "_law_begun" = some (some (.ref f31))) (l31 : K.lookup f31 = some ⟨oc31, od31, .func (PySem.W.fnOf "_law_begun" "_law_begun" (defArgs (topS 31)) (defBody (topS 31)) (defScope (topS 31)) .none kV31 dc31 pm31 an31 cd31 ct31), sl31⟩) (c31 : PySem.W.codeIn K cd31 "_law_begun" = true) (k31 : PySem.W.keepIn K (.ref f31) = true)
    (a32 : PySem.W.nsIn K mainGlobals "_law_mixed" = some (some (.ref f32))) (l32 : K.lookup f32 = some ⟨oc32, od32, .func (PySem.W.fnOf "_law_mixed" "_law_mixed" (defArgs (topS 32)) (defBody (topS 32)) (defScope (topS 32)) .none kV32 dc32 pm32 an32 cd32 ct32), sl32⟩) (c32 : PySem.W.codeIn K cd32 "_law_mixed" = true) (k32 : PySem.W.keepIn K (.ref f32) = true)
    (a33 : PySem.W.nsIn K mainGlobals "_law_take" = some (some (.ref f33))) (l33 : K.lookup f33 = some ⟨oc33, od33, .func (PySem.W.fnOf "_law_take" "_law_take" (defArgs (topS 33)) (defBody (topS 33)) (defScope (topS 33)) .none kV33 dc33 pm33 an33 cd33 ct33), sl33⟩) (c33 : PySem.W.codeIn K cd33 "_law_take" = true) (k33 : PySem.W.keepIn K (.ref f33) = true)
    (a34 : PySem.W.nsIn K mainGlobals "_law_pick" = some (some (.ref f34))) (l34 : K.lookup f34 = some ⟨oc34, od34, .func (PySem.W.fnOf "_law_pick" "_law_pick" (defArgs (topS 34)) (defBody (topS 34)) (defScope (topS 34)) .none kV34 dc34 pm34 an34 cd34 ct34), sl34⟩) (c34 : PySem.W.codeIn K cd34 "_law_pick" = true) (k34 : PySem.W.keepIn K (.ref f34) = true)
    (a35 : PySem.W.nsIn K mainGlobals "_law_bend" = some (some (.ref f35))) (l35 : K.lookup f35 = some ⟨oc35, od35, .func (PySem.W.fnOf "_law_bend" "_law_bend" (defArgs (topS 35)) (defBody (topS 35)) (defScope (topS 35)) .none kV35 dc35 pm35 an35 cd35 ct35), sl35⟩) (c35 : PySem.W.codeIn K cd35 "_law_bend" = true) (k35 : PySem.W.keepIn K (.ref f35) = true)
    (a36 : PySem.W.nsIn K mainGlobals "_law_power" = some (some (.ref f36))) (l36 : K.lookup f36 = some ⟨oc36, od36, .func (PySem.W.fnOf "_law_power" "_law_power" (defArgs (topS 36)) (defBody (topS 36)) (defScope (topS 36)) .none kV36 dc36 pm36 an36 cd36 ct36), sl36⟩) (c36 : PySem.W.codeIn K cd36 "_law_power" = true) (k36 : PySem.W.keepIn K (.ref f36) = true)
    (a37 : PySem.W.nsIn K mainGlobals "_law_trim" = some (some (.ref f37))) (l37 : K.lookup f37 = some ⟨oc37, od37, .func (PySem.W.fnOf "_law_trim" "_law_trim" (defArgs (topS 37)) (defBody (topS 37)) (defScope (topS 37)) .none kV37 dc37 pm37 an37 cd37 ct37), sl37⟩) (c37 : PySem.W.codeIn K cd37 "_law_trim" = true) (k37 : PySem.W.keepIn K (.ref f37) = true)
    (a38 : PySem.W.nsIn K mainGlobals "_law_falls" = some (some (.ref f38))) (l38 : K.lookup f38 = some ⟨oc38, od38, .func (PySem.W.fnOf "_law_falls" "_law_falls" (defArgs (topS 38)) (defBody (topS 38)) (defScope (topS 38)) .none kV38 dc38 pm38 an38 cd38 ct38), sl38⟩) (c38 : PySem.W.codeIn K cd38 "_law_falls" = true) (k38 : PySem.W.keepIn K (.ref f38) = true)
    (a39 : PySem.W.nsIn K mainGlobals "_law_form" = some (some (.ref f39))) (l39 : K.lookup f39 = some ⟨oc39, od39, .func (PySem.W.fnOf "_law_form" "_law_form" (defArgs (topS 39)) (defBody (topS 39)) (defScope (topS 39)) .none kV39 dc39 pm39 an39 cd39 ct39), sl39⟩) (c39 : PySem.W.codeIn K cd39 "_law_form" = true) (k39 : PySem.W.keepIn K (.ref f39) = true)
    (a40 : PySem.W.nsIn K mainGlobals "_law_mixed_rows" = some (some (.ref f40))) (l40 : K.lookup f40 = some ⟨oc40, od40, .func (PySem.W.fnOf "_law_mixed_rows" "_law_mixed_rows" (defArgs (topS 40)) (defBody (topS 40)) (defScope (topS 40)) .none kV40 dc40 pm40 an40 cd40 ct40), sl40⟩) (c40 : PySem.W.codeIn K cd40 "_law_mixed_rows" = true) (k40 : PySem.W.keepIn K (.ref f40) = true)
    (a41 : PySem.W.nsIn K mainGlobals "_law_drawn_sum" = some (some (.ref f41))) (l41 : K.lookup f41 = some ⟨oc41, od41, .func (PySem.W.fnOf "_law_drawn_sum" "_law_drawn_sum" (defArgs (topS 41)) (defBody (topS 41)) (defScope (topS 41)) .none kV41 dc41 pm41 an41 cd41 ct41), sl41⟩) (c41 : PySem.W.codeIn K cd41 "_law_drawn_sum" = true) (k41 : PySem.W.keepIn K (.ref f41) = true)
    (a42 : PySem.W.nsIn K mainGlobals "_law_form_holds" = some (some (.ref f42))) (l42 : K.lookup f42 = some ⟨oc42, od42, .func (PySem.W.fnOf "_law_form_holds" "_law_form_holds" (defArgs (topS 42)) (defBody (topS 42)) (defScope (topS 42)) .none kV42 dc42 pm42 an42 cd42 ct42), sl42⟩) (c42 : PySem.W.codeIn K cd42 "_law_form_holds" = true) (k42 : PySem.W.keepIn K (.ref f42) = true)
    (a43 : PySem.W.nsIn K mainGlobals "law" = some (some (.ref f43))) (l43 : K.lookup f43 = some ⟨oc43, od43, .func (PySem.W.fnOf "law" "law" (defArgs (topS 43)) (defBody (topS 43)) (defScope (topS 43)) .none kV43 dc43 pm43 an43 cd43 ct43), sl43⟩) (c43 : PySem.W.codeIn K cd43 "law" = true) (k43 : PySem.W.keepIn K (.ref f43) = true)
    (m1 : PySem.W.nsIn K mainGlobals "MOST_LETTERS" = some (some (.int 7 t1))) (m2 : PySem.W.nsIn K mainGlobals "MOST_LETTER" = some (some (.int 16 t2))) (mP : PySem.W.nsIn K mainGlobals "PRIMES" = some (some (.ref aP)))
    (lP : K.lookup aP = some ⟨ocP, odP, .seq itP nP, slP⟩) (cP : ocP = .type "tuple") (zP : itP.size ≤ sizeLine) (vP : Vals (primes.map V.int) itP.toList)
    (z_isinstance : PySem.W.nsIn K mainGlobals "isinstance" = some none) (z_int : PySem.W.nsIn K mainGlobals "int" = some none) (z_bool : PySem.W.nsIn K mainGlobals "bool" = some none) (z_list : PySem.W.nsIn K mainGlobals "list" = some none) (z_tuple : PySem.W.nsIn K mainGlobals "tuple" = some none) (z_dict : PySem.W.nsIn K mainGlobals "dict" = some none) (z_set : PySem.W.nsIn K mainGlobals "set" = some none) (z_len : PySem.W.nsIn K mainGlobals "len" = some none) (z_all : PySem.W.nsIn K mainGlobals "all" = some none) (z_sorted : PySem.W.nsIn K mainGlobals "sorted" = some none) (z_max : PySem.W.nsIn K mainGlobals "max" = some none) (z_min : PySem.W.nsIn K mainGlobals "min" = some none) (z_sum : PySem.W.nsIn K mainGlobals "sum" = some none) (z_range : PySem.W.nsIn K mainGlobals "range" = some none) (z_abs : PySem.W.nsIn K mainGlobals "abs" = some none) (z_repr : PySem.W.nsIn K mainGlobals "repr" = some none) (z_zip : PySem.W.nsIn K mainGlobals "zip" = some none) :
    ∃ fd : FuncData, (∀ (s : Shared) (v : Value), BindsTo s fd ⟨[v], []⟩ [("_law_script", v)]) ∧ ∀ base : Heap, K.In base → base.Ns mainGlobals mg → FnOk l.prog w K mg base CX0 7 fa fd ["_law_script"] (spLaw K) := by
  have e := hfa.symm.trans (PySem.W.mg_of X G a43)
  cases e
  have B : Bl mg := ⟨PySem.W.mg_none_of X G z_isinstance, PySem.W.mg_none_of X G z_int, PySem.W.mg_none_of X G z_bool, PySem.W.mg_none_of X G z_list, PySem.W.mg_none_of X G z_tuple, PySem.W.mg_none_of X G z_dict, PySem.W.mg_none_of X G z_set, PySem.W.mg_none_of X G z_len, PySem.W.mg_none_of X G z_all, PySem.W.mg_none_of X G z_sorted, PySem.W.mg_none_of X G z_max, PySem.W.mg_none_of X G z_min, PySem.W.mg_none_of X G z_sum, PySem.W.mg_none_of X G z_range, PySem.W.mg_none_of X G z_abs, PySem.W.mg_none_of X G z_repr, PySem.W.mg_none_of X G z_zip⟩
  have gP := PySem.W.mg_of X G mP
  have g1 := PySem.W.mg_of X G m1
  have g2 := PySem.W.mg_of X G m2
  have F7 := fun_mk (st := topS 7) l7 c7 k7
  have F8 := fun_mk (st := topS 8) l8 c8 k8
  have F9 := fun_mk (st := topS 9) l9 c9 k9
  have F10 := fun_mk (st := topS 10) l10 c10 k10
  have F12 := fun_mk (st := topS 12) l12 c12 k12
  have F16 := fun_mk (st := topS 16) l16 c16 k16
  have F17 := fun_mk (st := topS 17) l17 c17 k17
  have F18 := fun_mk (st := topS 18) l18 c18 k18
  have F19 := fun_mk (st := topS 19) l19 c19 k19
  have F20 := fun_mk (st := topS 20) l20 c20 k20
  have F21 := fun_mk (st := topS 21) l21 c21 k21
  have F22 := fun_mk (st := topS 22) l22 c22 k22
  have F23 := fun_mk (st := topS 23) l23 c23 k23
  have F24 := fun_mk (st := topS 24) l24 c24 k24
  have F25 := fun_mk (st := topS 25) l25 c25 k25
  have F26 := fun_mk (st := topS 26) l26 c26 k26
  have F27 := fun_mk (st := topS 27) l27 c27 k27
  have F28 := fun_mk (st := topS 28) l28 c28 k28
  have F29 := fun_mk (st := topS 29) l29 c29 k29
  have F31 := fun_mk (st := topS 31) l31 c31 k31
  have F32 := fun_mk (st := topS 32) l32 c32 k32
  have F33 := fun_mk (st := topS 33) l33 c33 k33
  have F34 := fun_mk (st := topS 34) l34 c34 k34
  have F35 := fun_mk (st := topS 35) l35 c35 k35
  have F36 := fun_mk (st := topS 36) l36 c36 k36
  have F37 := fun_mk (st := topS 37) l37 c37 k37
  have F38 := fun_mk (st := topS 38) l38 c38 k38
  have F39 := fun_mk (st := topS 39) l39 c39 k39
  have F40 := fun_mk (st := topS 40) l40 c40 k40
  have F41 := fun_mk (st := topS 41) l41 c41 k41
  have F42 := fun_mk (st := topS 42) l42 c42 k42
  have F43 := fun_mk (st := topS 43) l43 c43 k43
  have b7 := F7.binds (ps := ["thing"]) fun _ _ _ _ _ _ us hl => match us, hl with | [_], _ => rfl
  have b8 := F8.binds (ps := ["thing", "low", "high"]) fun _ _ _ _ _ _ us hl => match us, hl with | [_, _, _], _ => rfl
  have b9 := F9.binds (ps := ["thing"]) fun _ _ _ _ _ _ us hl => match us, hl with | [_], _ => rfl
  have b10 := F10.binds (ps := ["prime"]) fun _ _ _ _ _ _ us hl => match us, hl with | [_], _ => rfl
  have b12 := F12.binds (ps := ["prime", "q"]) fun _ _ _ _ _ _ us hl => match us, hl with | [_, _], _ => rfl
  have b16 := F16.binds (ps := ["thing"]) fun _ _ _ _ _ _ us hl => match us, hl with | [_], _ => rfl
  have b17 := F17.binds (ps := ["thing"]) fun _ _ _ _ _ _ us hl => match us, hl with | [_], _ => rfl
  have b18 := F18.binds (ps := ["prime", "some"]) fun _ _ _ _ _ _ us hl => match us, hl with | [_, _], _ => rfl
  have b19 := F19.binds (ps := ["q", "word", "place"]) fun _ _ _ _ _ _ us hl => match us, hl with | [_, _, _], _ => rfl
  have b20 := F20.binds (ps := ["prime", "q", "some", "place"]) fun _ _ _ _ _ _ us hl => match us, hl with | [_, _, _, _], _ => rfl
  have b21 := F21.binds (ps := ["prime", "q", "some", "route"]) fun _ _ _ _ _ _ us hl => match us, hl with | [_, _, _, _], _ => rfl
  have b22 := F22.binds (ps := ["some"]) fun _ _ _ _ _ _ us hl => match us, hl with | [_], _ => rfl
  have b23 := F23.binds (ps := ["some", "route"]) fun _ _ _ _ _ _ us hl => match us, hl with | [_, _], _ => rfl
  have b24 := F24.binds (ps := ["prime", "q", "words", "place"]) fun _ _ _ _ _ _ us hl => match us, hl with | [_, _, _, _], _ => rfl
  have b25 := F25.binds (ps := ["prime", "q", "words", "route"]) fun _ _ _ _ _ _ us hl => match us, hl with | [_, _, _, _], _ => rfl
  have b26 := F26.binds (ps := ["word"]) fun _ _ _ _ _ _ us hl => match us, hl with | [_], _ => rfl
  have b27 := F27.binds (ps := ["prime", "base", "many"]) fun _ _ _ _ _ _ us hl => match us, hl with | [_, _, _], _ => rfl
  have b28 := F28.binds (ps := ["prime", "q", "one", "other"]) fun _ _ _ _ _ _ us hl => match us, hl with | [_, _, _, _], _ => rfl
  have b29 := F29.binds (ps := ["prime", "q", "one", "other"]) fun _ _ _ _ _ _ us hl => match us, hl with | [_, _, _, _], _ => rfl
  have b31 := F31.binds (ps := ["_law_script"]) fun _ _ _ _ _ _ us hl => match us, hl with | [_], _ => rfl
  have b32 := F32.binds (ps := ["_law_draw"]) fun _ _ _ _ _ _ us hl => match us, hl with | [_], _ => rfl
  have b33 := F33.binds (ps := ["_law_draw", "_law_amount"]) fun _ _ _ _ _ _ us hl => match us, hl with | [_, _], _ => rfl
  have b34 := F34.binds (ps := ["_law_draw", "_law_some"]) fun _ _ _ _ _ _ us hl => match us, hl with | [_, _], _ => rfl
  have b35 := F35.binds (ps := ["_law_draw"]) fun _ _ _ _ _ _ us hl => match us, hl with | [_], _ => rfl
  have b36 := F36.binds (ps := ["_law_field", "_law_number", "_law_times_here"]) fun _ _ _ _ _ _ us hl => match us, hl with | [_, _, _], _ => rfl
  have b37 := F37.binds (ps := ["_law_field", "_law_some"]) fun _ _ _ _ _ _ us hl => match us, hl with | [_, _], _ => rfl
  have b38 := F38.binds (ps := ["_law_word"]) fun _ _ _ _ _ _ us hl => match us, hl with | [_], _ => rfl
  have b39 := F39.binds (ps := ["_law_field", "_law_q_here", "_law_one", "_law_other"]) fun _ _ _ _ _ _ us hl => match us, hl with | [_, _, _, _], _ => rfl
  have b40 := F40.binds (ps := ["_law_field", "_law_numbers_here", "_law_rows"]) fun _ _ _ _ _ _ us hl => match us, hl with | [_, _, _], _ => rfl
  have b41 := F41.binds (ps := ["_law_draw", "_law_field", "_law_many"]) fun _ _ _ _ _ _ us hl => match us, hl with | [_, _, _], _ => rfl
  have b42 := F42.binds (ps := ["_law_draw", "_law_field", "_law_q_here", "_law_one", "_law_many"]) fun _ _ _ _ _ _ us hl => match us, hl with | [_, _, _, _, _], _ => rfl
  refine ⟨PySem.W.fnOf "law" "law" (defArgs (topS 43)) (defBody (topS 43)) (defScope (topS 43)) .none kV43 dc43 pm43 an43 cd43 ct43, fun s v => .of_eq rfl, fun base _ _ => ?_⟩
  have D7 : Dn l.prog w K mg base 1 "is_number" ["thing"] spNum f7 _ := ⟨ok_num F7 B, PySem.W.mg_of X G a7, k7, b7⟩
  have D8 : Dn l.prog w K mg base 2 "is_between" ["thing", "low", "high"] spBet f8 _ := ⟨ok_bet F8 D7, PySem.W.mg_of X G a8, k8, b8⟩
  have D9 : Dn l.prog w K mg base 1 "is_list" ["thing"] spLst f9 _ := ⟨ok_lst F9 B, PySem.W.mg_of X G a9, k9, b9⟩
  have D10 : Dn l.prog w K mg base 2 "need_prime" ["prime"] spPri f10 _ := ⟨ok_pri F10 D7 gP (primes_at lP cP zP vP), PySem.W.mg_of X G a10, k10, b10⟩
  have D12 : Dn l.prog w K mg base 3 "need_bend" ["prime", "q"] spBend f12 _ := ⟨ok_bend F12 D7 D10, PySem.W.mg_of X G a12, k12, b12⟩
  have D16 : Dn l.prog w K mg base 3 "is_word" ["thing"] spWord f16 _ := ⟨ok_word F16 B D8 g1 g2, PySem.W.mg_of X G a16, k16, b16⟩
  have D17 : Dn l.prog w K mg base 4 "need_sum" ["thing"] spNsum f17 _ := ⟨ok_nsum F17 B D7 D16, PySem.W.mg_of X G a17, k17, b17⟩
  have D18 : Dn l.prog w K mg base 1 "plain_sum" ["prime", "some"] spPlain f18 _ := ⟨ok_plain F18 B, PySem.W.mg_of X G a18, k18, b18⟩
  have D19 : Dn l.prog w K mg base 1 "led_word" ["q", "word", "place"] spLedW f19 _ := ⟨ok_ledW F19, PySem.W.mg_of X G a19, k19, b19⟩
  have D20 : Dn l.prog w K mg base 2 "led_sum" ["prime", "q", "some", "place"] spLed f20 _ := ⟨ok_led F20 D19 D18, PySem.W.mg_of X G a20, k20, b20⟩
  have D21 : Dn l.prog w K mg base 3 "led_all" ["prime", "q", "some", "route"] spAll f21 _ := ⟨ok_all F21 D20 D18, PySem.W.mg_of X G a21, k21, b21⟩
  have D22 : Dn l.prog w K mg base 1 "length_of" ["some"] spLen f22 _ := ⟨ok_len F22 B, PySem.W.mg_of X G a22, k22, b22⟩
  have D23 : Dn l.prog w K mg base 3 "need_route" ["some", "route"] spRou f23 _ := ⟨ok_rou F23 B D22 D9 D8, PySem.W.mg_of X G a23, k23, b23⟩
  have D24 : Dn l.prog w K mg base 5 "exchanged" ["prime", "q", "words", "place"] spExch f24 _ := ⟨ok_exch F24 D12 D17 D23 D20, PySem.W.mg_of X G a24, k24, b24⟩
  have D25 : Dn l.prog w K mg base 5 "led_along" ["prime", "q", "words", "route"] spAlong f25 _ := ⟨ok_along F25 D12 D17 D23 D21, PySem.W.mg_of X G a25, k25, b25⟩
  have D26 : Dn l.prog w K mg base 1 "falls_of" ["word"] spFalls f26 _ := ⟨ok_falls F26 B, PySem.W.mg_of X G a26, k26, b26⟩
  have D27 : Dn l.prog w K mg base 1 "power" ["prime", "base", "many"] spPow f27 _ := ⟨ok_pow F27 B, PySem.W.mg_of X G a27, k27, b27⟩
  have D28 : Dn l.prog w K mg base 2 "word_form_of" ["prime", "q", "one", "other"] spFormOf f28 _ := ⟨ok_formOf F28 D27 D26, PySem.W.mg_of X G a28, k28, b28⟩
  have D29 : Dn l.prog w K mg base 5 "word_form" ["prime", "q", "one", "other"] spForm f29 _ := ⟨ok_form F29 D12 D17 D28, PySem.W.mg_of X G a29, k29, b29⟩
  have D31 : Dn l.prog w K mg base 1 "_law_begun" ["_law_script"] (spBegun K) f31 _ := ⟨ok_begun F31 B, PySem.W.mg_of X G a31, k31, b31⟩
  have D32 : Dn l.prog w K mg base 1 "_law_mixed" ["_law_draw"] spMixed f32 _ := ⟨ok_mixed F32 B, PySem.W.mg_of X G a32, k32, b32⟩
  have D33 : Dn l.prog w K mg base 2 "_law_take" ["_law_draw", "_law_amount"] spTake f33 _ := ⟨ok_take F33 B D32, PySem.W.mg_of X G a33, k33, b33⟩
  have D34 : Dn l.prog w K mg base 3 "_law_pick" ["_law_draw", "_law_some"] spPick f34 _ := ⟨ok_pick F34 B D33, PySem.W.mg_of X G a34, k34, b34⟩
  have D35 : Dn l.prog w K mg base 4 "_law_bend" ["_law_draw"] spBd f35 _ := ⟨ok_bd F35 D33 D34, PySem.W.mg_of X G a35, k35, b35⟩
  have D36 : Dn l.prog w K mg base 1 "_law_power" ["_law_field", "_law_number", "_law_times_here"] spPow f36 _ := ⟨ok_lpow F36 B, PySem.W.mg_of X G a36, k36, b36⟩
  have D37 : Dn l.prog w K mg base 1 "_law_trim" ["_law_field", "_law_some"] spPlain f37 _ := ⟨ok_trim F37 B, PySem.W.mg_of X G a37, k37, b37⟩
  have D38 : Dn l.prog w K mg base 1 "_law_falls" ["_law_word"] spFalls f38 _ := ⟨ok_lfalls F38 B, PySem.W.mg_of X G a38, k38, b38⟩
  have D39 : Dn l.prog w K mg base 2 "_law_form" ["_law_field", "_law_q_here", "_law_one", "_law_other"] spFormOf f39 _ := ⟨ok_lform F39 D36 D38, PySem.W.mg_of X G a39, k39, b39⟩
  have D40 : Dn l.prog w K mg base 2 "_law_mixed_rows" ["_law_field", "_law_numbers_here", "_law_rows"] spMix f40 _ := ⟨ok_mix F40 B D37, PySem.W.mg_of X G a40, k40, b40⟩
  have D41 : Dn l.prog w K mg base 4 "_law_drawn_sum" ["_law_draw", "_law_field", "_law_many"] spDrawn f41 _ := ⟨ok_drawn F41 B D33 D34, PySem.W.mg_of X G a41, k41, b41⟩
  have D42 : Dn l.prog w K mg base 6 "_law_form_holds" ["_law_draw", "_law_field", "_law_q_here", "_law_one", "_law_many"] spHolds f42 _ := ⟨ok_holds F42 B D33 D41 D40 D39 D29 (form_kw F29) D24, PySem.W.mg_of X G a42, k42, b42⟩
  exact ok_law F43 B D31 D35 D33 D41 D25 D24 D40 D37 D42
theorem walk {l : PySem.W.OpenLaw} {q : Program} {loose : List Str} {XP : (Str → Option Value) → Heap → Prop} {YP : World → Heap → Prop} {d : DefRec} {K : Params → PySem.W.Frag} (hn : l.most = some 63) (hdf : d.params.defaults = [])
    (hY : ∀ (w : World) (h : Heap), YP w h → (K w.params).In h)
    (F : ∀ (w : World) (mg : Str → Option Value) (fa : Addr) (h : Heap), (K w.params).In h → h.Ns mainGlobals mg → mg d.name = some (.ref fa) →
      ∃ fd : FuncData, (∀ (s : Shared) (u : Value), BindsTo s fd ⟨[u], []⟩ [("_law_script", u)]) ∧ ∀ base : Heap, (K w.params).In base → base.Ns mainGlobals mg → FnOk l.prog w (K w.params) mg base CX0 7 fa fd ["_law_script"] (spLaw (K w.params))) :
    PySem.W.WalkO q loose XP YP l.row.toRowW d [] (fun f vs => PySem.call f vs) :=
  L2.walk_of (n := 63) (k := 7) (x := "_law_script") (CX := fun _ => CX0) (sp := fun w => spLaw (K w.params)) hn (by decide) hdf ⟨rfl, by decide, by decide⟩ hY F (fun _ _ a ns hl _ hS => ⟨a, ns, rfl, hS, hl, fun _ => rfl⟩) fun _ _ _ _ _ z => z
end K9
open PySem PySem.W PyProof.Rows
set_option maxHeartbeats 0 in
theorem PySem.Challenge.cw_boxparts_k09_whole_rules_and_form_of_exc_holds : PySem.Challenge.rw_boxparts_k09_whole_rules_and_form_of_exc.Holds := by
  w_on; o_law; k_head; (case hw => w_witness2)
  k_fill
  refine K9.walk (l := PySem.Challenge.rw_boxparts_k09_whole_rules_and_form_of_exc) rfl rfl (fun w h Y => PySem.W.kIn_of Y) ?F
  case F =>
    intro w mg fa h KX G hmg
    refine' K9.all_mk KX G hmg ?a7 ?l7 ?c7 ?k7 ?a8 ?l8 ?c8 ?k8 ?a9 ?l9 ?c9 ?k9 ?a10 ?l10 ?c10 ?k10 ?a12 ?l12 ?c12 ?k12 ?a16 ?l16 ?c16 ?k16 ?a17 ?l17 ?c17 ?k17 ?a18 ?l18 ?c18 ?k18 ?a19 ?l19 ?c19 ?k19 ?a20 ?l20 ?c20 ?k20 ?a21 ?l21 ?c21 ?k21 ?a22 ?l22 ?c22 ?k22 ?a23 ?l23 ?c23 ?k23 ?a24 ?l24 ?c24 ?k24 ?a25 ?l25 ?c25 ?k25 ?a26 ?l26 ?c26 ?k26 ?a27 ?l27 ?c27 ?k27 ?a28 ?l28 ?c28 ?k28 ?a29 ?l29 ?c29 ?k29 ?a31 ?l31 ?c31 ?k31 ?a32 ?l32 ?c32 ?k32 ?a33 ?l33 ?c33 ?k33 ?a34 ?l34 ?c34 ?k34 ?a35 ?l35 ?c35 ?k35 ?a36 ?l36 ?c36 ?k36 ?a37 ?l37 ?c37 ?k37 ?a38 ?l38 ?c38 ?k38 ?a39 ?l39 ?c39 ?k39 ?a40 ?l40 ?c40 ?k40 ?a41 ?l41 ?c41 ?k41 ?a42 ?l42 ?c42 ?k42 ?a43 ?l43 ?c43 ?k43 ?m1 ?m2 ?mP ?lP ?cP ?zP ?vP ?z_isinstance ?z_int ?z_bool ?z_list ?z_tuple ?z_dict ?z_set ?z_len ?z_all ?z_sorted ?z_max ?z_min ?z_sum ?z_range ?z_abs ?z_repr ?z_zip
    (case a7 => k_is); (case l7 => k_is); (case c7 => k_is); (case k7 => k_is)
    (case a8 => k_is); (case l8 => k_is); (case c8 => k_is); (case k8 => k_is)
    (case a9 => k_is); (case l9 => k_is); (case c9 => k_is); (case k9 => k_is)
    (case a10 => k_is); (case l10 => k_is); (case c10 => k_is); (case k10 => k_is)
    (case a12 => k_is); (case l12 => k_is); (case c12 => k_is); (case k12 => k_is)
    (case a16 => k_is); (case l16 => k_is); (case c16 => k_is); (case k16 => k_is)
    (case a17 => k_is); (case l17 => k_is); (case c17 => k_is); (case k17 => k_is)
    (case a18 => k_is); (case l18 => k_is); (case c18 => k_is); (case k18 => k_is)
    (case a19 => k_is); (case l19 => k_is); (case c19 => k_is); (case k19 => k_is)
    (case a20 => k_is); (case l20 => k_is); (case c20 => k_is); (case k20 => k_is)
    (case a21 => k_is); (case l21 => k_is); (case c21 => k_is); (case k21 => k_is)
    (case a22 => k_is); (case l22 => k_is); (case c22 => k_is); (case k22 => k_is)
    (case a23 => k_is); (case l23 => k_is); (case c23 => k_is); (case k23 => k_is)
    (case a24 => k_is); (case l24 => k_is); (case c24 => k_is); (case k24 => k_is)
    (case a25 => k_is); (case l25 => k_is); (case c25 => k_is); (case k25 => k_is)
    (case a26 => k_is); (case l26 => k_is); (case c26 => k_is); (case k26 => k_is)
    (case a27 => k_is); (case l27 => k_is); (case c27 => k_is); (case k27 => k_is)
    (case a28 => k_is); (case l28 => k_is); (case c28 => k_is); (case k28 => k_is)
    (case a29 => k_is); (case l29 => k_is); (case c29 => k_is); (case k29 => k_is)
    (case a31 => k_is); (case l31 => k_is); (case c31 => k_is); (case k31 => k_is)
    (case a32 => k_is); (case l32 => k_is); (case c32 => k_is); (case k32 => k_is)
    (case a33 => k_is); (case l33 => k_is); (case c33 => k_is); (case k33 => k_is)
    (case a34 => k_is); (case l34 => k_is); (case c34 => k_is); (case k34 => k_is)
    (case a35 => k_is); (case l35 => k_is); (case c35 => k_is); (case k35 => k_is)
    (case a36 => k_is); (case l36 => k_is); (case c36 => k_is); (case k36 => k_is)
    (case a37 => k_is); (case l37 => k_is); (case c37 => k_is); (case k37 => k_is)
    (case a38 => k_is); (case l38 => k_is); (case c38 => k_is); (case k38 => k_is)
    (case a39 => k_is); (case l39 => k_is); (case c39 => k_is); (case k39 => k_is)
    (case a40 => k_is); (case l40 => k_is); (case c40 => k_is); (case k40 => k_is)
    (case a41 => k_is); (case l41 => k_is); (case c41 => k_is); (case k41 => k_is)
    (case a42 => k_is); (case l42 => k_is); (case c42 => k_is); (case k42 => k_is)
    (case a43 => k_is); (case l43 => k_is); (case c43 => k_is); (case k43 => k_is)
    (case m1 => k_is); (case m2 => k_is); (case mP => k_is); (case lP => k_is)
    (case cP => rfl)
    (case zP => decide)
    (case vP => repeat (first | exact PySem.Paired.nil | refine PySem.Paired.cons ⟨_, rfl⟩ ?_))
    (case z_isinstance => k_is); (case z_int => k_is); (case z_bool => k_is); (case z_list => k_is); (case z_tuple => k_is); (case z_dict => k_is); (case z_set => k_is); (case z_len => k_is); (case z_all => k_is); (case z_sorted => k_is); (case z_max => k_is); (case z_min => k_is); (case z_sum => k_is); (case z_range => k_is); (case z_abs => k_is); (case z_repr => k_is); (case z_zip => k_is)
