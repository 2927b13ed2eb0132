namespace Go.Proofs.Ytncmmnbpkeemmaa.Cal
set_option linter.unusedVariables false
set_option linter.unusedSimpArgs false
def lp (y : Int) : Int := if y % 4 = 0 then (if y % 100 = 0 then (if y % 400 = 0 then 1 else 0) else 1) else 0
def dby (y : Int) : Int := 365 * (y - 1970) + (y - 1) / 4 - (y - 1) / 100 + (y - 1) / 400 - 477
theorem dby_succ (y : Int) : dby (y + 1) = dby y + 365 + lp y := by
  unfold dby lp
  split
  · split
    · split <;> omega
    · omega
  · omega
theorem split_n (n : Int) (h0 : 0 ≤ n) (h1 : n ≤ 146096) : ∃ c q k d : Int, 0 ≤ c ∧ c ≤ 3 ∧ 0 ≤ q ∧ q ≤ 24 ∧ 0 ≤ k ∧ k ≤ 3 ∧ 0 ≤ d ∧ d ≤ 365 ∧ n = 36524 * c + 1461 * q + 365 * k + d ∧ (d = 365 → k = 3 ∧ (q = 24 → c = 3)) := by
  obtain ⟨c, hc⟩ : ∃ c, c = min (n / 36524) 3 := ⟨_, rfl⟩
  obtain ⟨r, hr⟩ : ∃ r, r = n - 36524 * c := ⟨_, rfl⟩
  have r0 : 0 ≤ r := by omega
  have r1 : r ≤ 36524 := by omega
  have r2 : r = 36524 → c = 3 := by omega
  have c0 : 0 ≤ c ∧ c ≤ 3 := by omega
  clear hc
  obtain ⟨q, hq⟩ : ∃ q, q = r / 1461 := ⟨_, rfl⟩
  obtain ⟨s, hs⟩ : ∃ s, s = r - 1461 * q := ⟨_, rfl⟩
  have q0 : 0 ≤ q ∧ q ≤ 24 := by omega
  have s0 : 0 ≤ s ∧ s ≤ 1460 := by omega
  have s1 : q = 24 → s = 1460 → c = 3 := by omega
  clear hq
  obtain ⟨k, hk⟩ : ∃ k, k = min (s / 365) 3 := ⟨_, rfl⟩
  refine ⟨c, q, k, s - 365 * k, c0.1, c0.2, q0.1, q0.2, by omega, by omega, by omega, by omega, by omega, fun h => ⟨by omega, fun h2 => s1 h2 (by omega)⟩⟩
theorem yoe_eq (n c q k d : Int) (c0 : 0 ≤ c) (c1 : c ≤ 3) (q0 : 0 ≤ q) (q1 : q ≤ 24) (k0 : 0 ≤ k) (k1 : k ≤ 3) (d0 : 0 ≤ d) (d1 : d ≤ 365) (hn : n = 36524 * c + 1461 * q + 365 * k + d) (hd : d = 365 → k = 3 ∧ (q = 24 → c = 3)) :
    (n - n / 1460 + n / 36524 - n / 146096) / 365 = 100 * c + 4 * q + k := by
  have ha : n / 36524 - n / 146096 = c := by
    have h1 : n ≤ 146096 := by omega
    by_cases e : n = 146096
    · subst e; omega
    · have : n / 146096 = 0 := by omega
      have : n / 36524 = c := by omega
      omega
  have hb : n / 1460 = 25 * c + q ∨ n / 1460 = 25 * c + q + 1 := by omega
  have hb2 : n / 1460 = 25 * c + q + 1 → k = 3 ∧ 1 ≤ d := by omega
  have hb3 : d = 365 → n / 1460 = 25 * c + q + 1 := by
    intro h
    obtain ⟨h3, _⟩ := hd h
    omega
  have e : n - n / 1460 + n / 36524 - n / 146096 = n - n / 1460 + c := by omega
  rw [e]
  rcases hb with hb | hb <;> omega

/-- Days ahead of month m of year y. -/
def cum (y m : Int) : Int := if m ≤ 1 then 0 else if m = 2 then 31 else 59 + lp y + ((153 * (m - 3) + 2) / 5)
def len (y m : Int) : Int := if m = 2 then 28 + lp y else if m = 4 ∨ m = 6 ∨ m = 9 ∨ m = 11 then 30 else 31
theorem lp_01 (y : Int) : 0 ≤ lp y ∧ lp y ≤ 1 := by
  unfold lp
  repeat' split
  all_goals omega
theorem cases12 (m : Int) (h1 : 1 ≤ m) (h2 : m ≤ 12) : m = 1 ∨ m = 2 ∨ m = 3 ∨ m = 4 ∨ m = 5 ∨ m = 6 ∨ m = 7 ∨ m = 8 ∨ m = 9 ∨ m = 10 ∨ m = 11 ∨ m = 12 := by omega
theorem cum_succ (y m : Int) (h1 : 1 ≤ m) (h2 : m ≤ 12) : cum y (m + 1) = cum y m + len y m := by
  unfold cum len
  rcases cases12 m h1 h2 with rfl | rfl | rfl | rfl | rfl | rfl | rfl | rfl | rfl | rfl | rfl | rfl <;> simp <;> omega
theorem len_bd (y m : Int) : 28 ≤ len y m ∧ len y m ≤ 31 := by
  have := lp_01 y
  unfold len
  repeat' split
  all_goals omega
theorem cum_13 (y : Int) : cum y 13 = 365 + lp y := by
  unfold cum; simp; omega
theorem cum_bd (y m : Int) (h1 : 1 ≤ m) (h2 : m ≤ 12) : 0 ≤ cum y m ∧ cum y m + len y m ≤ 365 + lp y := by
  have := lp_01 y
  unfold cum len
  rcases cases12 m h1 h2 with rfl | rfl | rfl | rfl | rfl | rfl | rfl | rfl | rfl | rfl | rfl | rfl <;> simp <;> omega
def num (y m d : Int) : Int := dby y + cum y m + d - 1
def dN (day : Int) : Int := (day + 719468) % 146097
def dE (day : Int) : Int := (day + 719468) / 146097
def dYo (n : Int) : Int := (n - n / 1460 + n / 36524 - n / 146096) / 365
def dDoy (n : Int) : Int := n - (365 * dYo n + dYo n / 4 - dYo n / 100)
def dMp (n : Int) : Int := (5 * dDoy n + 2) / 153
def dD (n : Int) : Int := dDoy n - (153 * dMp n + 2) / 5 + 1
def dateY (day : Int) : Int := if dMp (dN day) < 10 then dE day * 400 + dYo (dN day) else dE day * 400 + dYo (dN day) + 1
def dateM (day : Int) : Int := if dMp (dN day) < 10 then dMp (dN day) + 3 else dMp (dN day) - 9
def dateD (day : Int) : Int := dD (dN day)
theorem doy_ok (n : Int) (h0 : 0 ≤ n) (h1 : n ≤ 146096) : 0 ≤ dYo n ∧ dYo n ≤ 399 ∧ 0 ≤ dDoy n ∧ dDoy n ≤ 365 ∧ (dDoy n = 365 → ∀ e : Int, lp (e * 400 + dYo n + 1) = 1) := by
  obtain ⟨c, q, k, d, c0, c1, q0, q1, k0, k1, d0, d1, hn, hd⟩ := split_n n h0 h1
  have hy := yoe_eq n c q k d c0 c1 q0 q1 k0 k1 d0 d1 hn hd
  have hy' : dYo n = 100 * c + 4 * q + k := hy
  clear hy
  have hdd : dDoy n = d := by
    unfold dDoy
    rw [hy']
    have e4 : (100 * c + 4 * q + k) / 4 = 25 * c + q := by omega
    have e100 : (100 * c + 4 * q + k) / 100 = c := by omega
    rw [e4, e100]; omega
  rw [hy', hdd]
  clear hy' hdd hn
  refine ⟨by omega, by omega, by omega, by omega, fun h e => ?_⟩
  obtain ⟨rfl, hq⟩ := hd h
  clear hd h d0 d1 h0 h1 k0 k1
  have e4 : (e * 400 + (100 * c + 4 * q + 3) + 1) % 4 = 0 := by omega
  have e100 : (e * 400 + (100 * c + 4 * q + 3) + 1) % 100 = (4 * q + 4) % 100 := by omega
  unfold lp
  rw [if_pos e4]
  by_cases hq24 : q = 24
  · have := hq hq24
    subst hq24; subst this
    rw [if_pos (by omega), if_pos (by omega)]
  · rw [if_neg (by omega)]
theorem date_ok (day : Int) (h0 : 0 ≤ day) (h1 : day ≤ 4000000) :
    1970 ≤ dateY day ∧ dateY day ≤ 14000 ∧ 1 ≤ dateM day ∧ dateM day ≤ 12 ∧ 1 ≤ dateD day ∧ dateD day ≤ len (dateY day) (dateM day) ∧ num (dateY day) (dateM day) (dateD day) = day := by
  have hn : 0 ≤ dN day ∧ dN day ≤ 146096 ∧ day + 719468 = 146097 * dE day + dN day := by unfold dN dE; omega
  obtain ⟨n0, n1, hday⟩ := hn
  obtain ⟨y0, y1, d0, d1, hlp⟩ := doy_ok (dN day) n0 n1
  have hdoy : dDoy (dN day) = dN day - (365 * dYo (dN day) + dYo (dN day) / 4 - dYo (dN day) / 100) := rfl
  have hlp' := hlp
  have hE : 0 ≤ dE day ∧ dE day ≤ 33 := by unfold dE; omega
  have hbase : dby (dE day * 400 + dYo (dN day) + 1) - 306 + dDoy (dN day) = day := by
    unfold dby
    have e4 : (dE day * 400 + dYo (dN day) + 1 - 1) / 4 = 100 * dE day + dYo (dN day) / 4 := by omega
    have e100 : (dE day * 400 + dYo (dN day) + 1 - 1) / 100 = 4 * dE day + dYo (dN day) / 100 := by omega
    have e400 : (dE day * 400 + dYo (dN day) + 1 - 1) / 400 = dE day := by omega
    rw [e4, e100, e400]
    omega
  unfold dateY dateM dateD dD dMp
  generalize dDoy (dN day) = doy at *
  generalize hY : dE day * 400 + dYo (dN day) = Y at *
  have hYb : 1969 ≤ Y ∧ Y ≤ 13600 := by
    have hd : dby (Y + 1) = day + 306 - doy := by omega
    unfold dby at hd
    omega
  have hs := dby_succ Y
  have l1 := lp_01 Y
  have l2 := lp_01 (Y + 1)
  have hlpY : doy = 365 → lp (Y + 1) = 1 := fun h => by have := hlp' h (dE day); rw [hY] at this; exact this
  have hmp : (5 * doy + 2) / 153 = 0 ∨ (5 * doy + 2) / 153 = 1 ∨ (5 * doy + 2) / 153 = 2 ∨ (5 * doy + 2) / 153 = 3 ∨ (5 * doy + 2) / 153 = 4 ∨ (5 * doy + 2) / 153 = 5 ∨ (5 * doy + 2) / 153 = 6 ∨ (5 * doy + 2) / 153 = 7 ∨ (5 * doy + 2) / 153 = 8 ∨ (5 * doy + 2) / 153 = 9 ∨ (5 * doy + 2) / 153 = 10 ∨ (5 * doy + 2) / 153 = 11 := by omega
  have hY1970 : (5 * doy + 2) / 153 < 10 → 1970 ≤ Y := by
    intro h
    have hd : dby (Y + 1) = day + 306 - doy := by omega
    unfold dby at hd
    omega
  clear hlp hlp' hdoy hE n0 n1 hday y0 y1 hY h0 h1
  unfold num cum len
  rcases hmp with h | h | h | h | h | h | h | h | h | h | h | h <;> rw [h] at hY1970 ⊢ <;> simp at hY1970 ⊢ <;> omega

theorem dby_add (a : Int) (n : Nat) : dby a + 365 * n ≤ dby (a + n) ∧ dby (a + n) ≤ dby a + 366 * n := by
  induction n with
  | zero => simp
  | succ n ih =>
    have h := dby_succ (a + n)
    have l := lp_01 (a + n)
    have e : a + ((n + 1 : Nat) : Int) = a + n + 1 := by omega
    rw [e]
    omega
theorem dby_mono (a b : Int) (h : a ≤ b) : dby a + 365 * (b - a) ≤ dby b ∧ dby b ≤ dby a + 366 * (b - a) := by
  have := dby_add a (b - a).toNat
  have e : a + ((b - a).toNat : Int) = b := by omega
  rw [e] at this
  omega
theorem cum_mono (y m : Int) (n : Nat) (h1 : 1 ≤ m) (h2 : m + n ≤ 12) : cum y (m + n) + len y (m + n) ≥ cum y m + len y m ∧ (0 < n → cum y m + len y m ≤ cum y (m + n)) := by
  induction n with
  | zero => simp
  | succ n ih =>
    have ih := ih (by omega)
    have e : m + ((n + 1 : Nat) : Int) = m + n + 1 := by omega
    have hs := cum_succ y (m + n) (by omega) (by omega)
    have hl := len_bd y (m + n + 1)
    rw [e]
    omega
theorem num_year (y m d : Int) (hm : 1 ≤ m ∧ m ≤ 12) (hd : 1 ≤ d ∧ d ≤ len y m) : dby y ≤ num y m d ∧ num y m d < dby (y + 1) := by
  have := cum_bd y m hm.1 hm.2
  have := dby_succ y
  unfold num
  omega
theorem num_inj (y m d y' m' d' : Int) (hm : 1 ≤ m ∧ m ≤ 12) (hd : 1 ≤ d ∧ d ≤ len y m) (hm' : 1 ≤ m' ∧ m' ≤ 12) (hd' : 1 ≤ d' ∧ d' ≤ len y' m') (h : num y m d = num y' m' d') : y = y' ∧ m = m' ∧ d = d' := by
  have a := num_year y m d hm hd
  have b := num_year y' m' d' hm' hd'
  have hy : y = y' := by
    rcases Int.lt_trichotomy y y' with c | c | c
    · have := dby_mono (y + 1) y' (by omega); omega
    · exact c
    · have := dby_mono (y' + 1) y (by omega); omega
  subst hy
  refine ⟨rfl, ?_⟩
  unfold num at h
  have hmm : m = m' := by
    rcases Int.lt_trichotomy m m' with c | c | c
    · have := (cum_mono y m (m' - m).toNat hm.1 (by omega)).2 (by omega)
      rw [show m + ((m' - m).toNat : Int) = m' from by omega] at this
      omega
    · exact c
    · have := (cum_mono y m' (m - m').toNat hm'.1 (by omega)).2 (by omega)
      rw [show m' + ((m - m').toNat : Int) = m from by omega] at this
      omega
  subst hmm
  exact ⟨rfl, by omega⟩

/-- The day of a date, with divisions. -/
def gnum (y m d : Int) : Int := if m < 3 then (y - 1) / 400 * 146097 + (365 * ((y - 1) % 400) + (y - 1) % 400 / 4 - (y - 1) % 400 / 100 + (153 * (m - 3 + 12) + 2) / 5 + d - 1) - 719468 else y / 400 * 146097 + (365 * (y % 400) + y % 400 / 4 - y % 400 / 100 + (153 * (m - 3) + 2) / 5 + d - 1) - 719468
theorem era_eq (Y : Int) (h : 0 ≤ Y) : Y / 400 * 146097 + (365 * (Y % 400) + Y % 400 / 4 - Y % 400 / 100) - 719468 = dby (Y + 1) - 306 := by
  unfold dby
  have e4 : (Y + 1 - 1) / 4 = 100 * (Y / 400) + Y % 400 / 4 := by omega
  have e100 : (Y + 1 - 1) / 100 = 4 * (Y / 400) + Y % 400 / 100 := by omega
  have e400 : (Y + 1 - 1) / 400 = Y / 400 := by omega
  rw [e4, e100, e400]
  omega
theorem gnum_eq (y m d : Int) (hy : 1 ≤ y) (h1 : 1 ≤ m) (h2 : m ≤ 12) : gnum y m d = num y m d := by
  have a := era_eq y (by omega)
  have b := era_eq (y - 1) (by omega)
  have c := dby_succ y
  rw [show y - 1 + 1 = y from by omega] at b
  unfold gnum num cum
  generalize y / 400 * 146097 = p at *
  generalize y % 400 / 4 = p2 at *
  generalize y % 400 / 100 = p3 at *
  generalize y % 400 = p4 at *
  generalize (y - 1) / 400 * 146097 = q at *
  generalize (y - 1) % 400 / 4 = q2 at *
  generalize (y - 1) % 400 / 100 = q3 at *
  generalize (y - 1) % 400 = q4 at *
  rcases cases12 m h1 h2 with rfl | rfl | rfl | rfl | rfl | rfl | rfl | rfl | rfl | rfl | rfl | rfl <;> simp <;> omega
end Go.Proofs.Ytncmmnbpkeemmaa.Cal
