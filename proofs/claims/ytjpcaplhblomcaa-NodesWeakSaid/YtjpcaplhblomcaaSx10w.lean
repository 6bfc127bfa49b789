/- The executor: operations that turn places: append. No condition. -/
import Derived.Test.YtjpcaplhblomcaaSx10
import Derived.ArgAppend
set_option linter.unusedVariables false
set_option linter.unusedSimpArgs false
namespace Go.Sx
open Go.RowKit (Below)

def goneL : List Nat → List Res → List Res
  | [], l => l
  | t :: ts, l => goneL ts (rset l t .gone)

theorem rset_length (l : List Res) (i : Nat) (r : Res) : (rset l i r).length = l.length := by rw [rset_eq]; simp

theorem goneL_length : ∀ (ts : List Nat) (l : List Res), (goneL ts l).length = l.length
  | [], _ => rfl
  | t :: ts, l => by simp only [goneL]; rw [goneL_length ts, rset_length]

theorem rget_goneL : ∀ (ts : List Nat) (l : List Res) (i : Nat), (∀ t ∈ ts, t < l.length) → rget (goneL ts l) i = if i ∈ ts then .gone else rget l i
  | [], l, i, _ => by simp [goneL]
  | t :: ts, l, i, h => by
    simp only [goneL]
    rw [rget_goneL ts _ i fun u hu => by rw [rset_length]; exact h u (by simp [hu]), rget_rset _ _ _ _ (h t (by simp))]
    by_cases e : i ∈ ts
    · simp [e]
    · by_cases e' : i = t
      · simp [e']
      · simp [e, e']

/-- A new place behind a step that takes some; marks besides. -/
theorem HRep.newres {ρ ρ' : Env} {fps : Nat → Nat → Prop} {res : List Res} {w0 : World} {F0 : Nat → Prop} {w w' : World} (h : HRep ρ fps res (known res) w0 F0 w) (ts : List Nat) (r : Res) (ms : List Res) (fp : Nat → Prop)
    (hms : ∀ m ∈ ms, ∃ j, m = .gen j) (hts : ∀ t ∈ ts, known res t) (hr : r ≠ .yet) (hag : Env.agree (known res) ρ ρ')
    (hh : r.holds (known (goneL ts res ++ r :: ms)) ρ' res.length fp w0 F0 w') (hfp : ∀ b, fp b → (∃ t ∈ ts, fps t b) ∨ (w.heap.size ≤ b ∧ b < w'.heap.size))
    (hos : w'.os = w.os) (htape : w'.tape = w.tape) (hout : w'.output = w.output) (hsize : w.heap.size ≤ w'.heap.size)
    (hsame : ∀ b, b < w.heap.size → (∀ t ∈ ts, ¬ fps t b) → w'.heap[b]? = w.heap[b]?) :
    ∃ fps', HRep ρ' fps' (goneL ts res ++ r :: ms) (known (goneL ts res ++ r :: ms)) w0 F0 w' ∧ Env.agree (known res) ρ ρ' ∧ (∀ i, known res i → known (goneL ts res ++ r :: ms) i) ∧ known (goneL ts res ++ r :: ms) res.length := by
  have hlt : ∀ t ∈ ts, t < res.length := fun t ht => rget_lt (hts t ht)
  have hget : ∀ i, rget (goneL ts res ++ r :: ms) i = if i < res.length then (if i ∈ ts then .gone else rget res i) else if i = res.length then r else rget ms (i - res.length - 1) := by
    intro i
    rw [rget_append, goneL_length]
    by_cases hi : i < res.length
    · rw [if_pos hi, if_pos hi, rget_goneL ts res i hlt]
    · rw [if_neg hi, if_neg hi]
      by_cases e : i = res.length
      · subst e; simp [rget]
      · rw [if_neg e]
        have : ∃ k, i - res.length = k + 1 := ⟨i - res.length - 1, by omega⟩
        obtain ⟨k, hk⟩ := this
        rw [hk]; simp [rget]
  have hmget : ∀ k, rget ms k = .yet ∨ ∃ j, rget ms k = .gen j := fun k => by
    rw [rget_eq, List.getD_eq_getElem?_getD]
    cases hm : ms[k]? with
    | none => exact .inl rfl
    | some m =>
      obtain ⟨j, rfl⟩ := hms m (List.mem_of_getElem? hm)
      exact .inr ⟨j, rfl⟩
  have hmono : ∀ i, known res i → known (goneL ts res ++ r :: ms) i := fun i hi => by
    unfold known
    rw [hget, if_pos (rget_lt hi)]
    split
    · simp
    · exact hi
  have hnew : known (goneL ts res ++ r :: ms) res.length := by
    unfold known
    rw [hget, if_neg (by omega), if_pos rfl]
    exact hr
  obtain ⟨fps', g⟩ := h.turn (res' := goneL ts res ++ r :: ms) (K' := known (goneL ts res ++ r :: ms)) (fun i => i ∈ ts) (fun i => i ∈ ts ∨ res.length ≤ i) (fun i b => i = res.length ∧ fp b)
    (fun i hi => hi) hmono hag (fun i hi hb => by
      have hi' := hi
      unfold known at hi'
      rw [hget] at hi'
      have h1 : i ∉ ts := fun e => hb (.inl e)
      have hl : i < res.length := by
        rcases Nat.lt_or_ge i res.length with h | h
        · exact h
        · exact absurd (.inr h) hb
      rw [if_pos hl, if_neg h1] at hi'
      exact ⟨hi', h1, by rw [hget, if_pos hl, if_neg h1]⟩)
    (fun i hi hb => by
      by_cases e : i = res.length
      · subst e
        refine ⟨?_, fun b hf => ?_⟩
        · rw [hget, if_neg (by omega), if_pos rfl]
          have : (fun b => res.length = res.length ∧ fp b) = fp := by funext b; simp
          rw [this]; exact hh
        · rcases hfp b hf.2 with ⟨t, ht, hft⟩ | hn
          · exact .inl ⟨t, ht, hts t ht, hft⟩
          · exact .inr hn
      · refine ⟨?_, fun b hf => absurd hf.1 e⟩
        rw [hget]
        by_cases hl : i < res.length
        · rw [if_pos hl, if_pos (hb.resolve_right (by omega))]
          trivial
        · rw [if_neg hl, if_neg e]
          rcases hmget (i - res.length - 1) with h | ⟨j, h⟩ <;> rw [h] <;> trivial)
    (fun i j b _ _ hne hf hf' => hne (hf.1.trans hf'.1.symm))
    hos htape hout hsize (fun b hb hno => hsame b hb fun t ht => hno t ht (hts t ht))
  exact ⟨fps', g, hag, hmono, hnew⟩

def lapp {α : Type} (l : List α) (x : α) : List α := l ++ [x]
def pFit (n b : Nat) : Prop := n + 1 ≤ maxLen ∧ (n + 1) * b ≤ 140737488355328

/-- One element more. -/
def tlApp (l : TL) (v : V) : Option TL :=
  match l with
  | .ob l => match v with
    | .ob o => some (.ob (lapp l o))
    | _ => none
  | .key l => match v with
    | .key k => some (.key (lapp l k))
    | _ => none
  | .it k l => match toInt v with
    | some (k', n) => if k == k' then some (.it k (lapp l n)) else none
    | none => none
  | .bo l => match toBool v with
    | some b => some (.bo (lapp l b))
    | none => none
  | .st l => match v with
    | .st s => some (.st (lapp l s))
    | _ => none
  | .fn _ _ => none

def tlNil (v : V) : Option TL :=
  match v with
  | .ob o => some (.ob [o])
  | .key k => some (.key [k])
  | .st s => some (.st [s])
  | _ => match toInt v with
    | some (k, n) => some (.it k [n])
    | none => match toBool v with
      | some b => some (.bo [b])
      | none => none

/-- What an added element is. -/
def Added (K : Nat → Prop) (n : Nat) (g : Nat → V) (v : V) (l' : TL) : Prop :=
  l'.len = n + 1 ∧ (∀ i, i < n → l'.get i = g i) ∧ (∀ ρ, cells ρ (l'.get n) = cells ρ v) ∧ (ok K v → ok (fun _ => False) (l'.get n)) ∧ isTp (l'.get n) = false ∧ vsz (l'.get n) = vsz v

theorem lget_app {α : Type} (l : List α) (x d : α) : (∀ i, i < l.length → lget (lapp l x) i d = lget l i d) ∧ lget (lapp l x) l.length d = x := by
  unfold lget lapp
  refine ⟨fun i hi => ?_, ?_⟩
  · simp [List.getD_eq_getElem?_getD, List.getElem?_append_left hi]
  · simp [List.getD_eq_getElem?_getD]

theorem tlApp_spec {K : Nat → Prop} {l l' : TL} {v : V} (h : tlApp l v = some l') : Added K l.len l.get v l' := by
  unfold tlApp at h
  cases l with
  | fn n g => simp at h
  | ob l =>
    cases v <;> simp only [Option.some.injEq, reduceCtorEq] at h
    subst h
    rename_i o
    obtain ⟨a, b⟩ := lget_app l o free
    exact ⟨by simp [TL.len, llen, lapp], fun i hi => congrArg V.ob (a i hi), fun ρ => by simp only [TL.get, TL.len, llen, b], fun hk => by simp only [TL.get, TL.len, llen, b]; exact hk, rfl, rfl⟩
  | key l =>
    cases v <;> simp only [Option.some.injEq, reduceCtorEq] at h
    subst h
    rename_i o
    obtain ⟨a, b⟩ := lget_app l o void
    exact ⟨by simp [TL.len, llen, lapp], fun i hi => congrArg V.key (a i hi), fun ρ => by simp only [TL.get, TL.len, llen, b], fun hk => by simp only [TL.get, TL.len, llen, b]; exact hk, rfl, rfl⟩
  | it k l =>
    simp only at h
    split at h
    · rename_i k' n hn
      split at h <;> simp only [Option.some.injEq, reduceCtorEq] at h
      rename_i hk
      have hk := beq_iff_eq.1 hk
      subst hk; subst h
      obtain ⟨a, b⟩ := lget_app l n 0
      obtain ⟨c1, c2, c3⟩ := toInt_added (K := K) hn
      exact ⟨by simp [TL.len, llen, lapp], fun i hi => congrArg (V.it k) (a i hi), fun ρ => by simp only [TL.get, TL.len, llen, b]; exact c1 ρ, fun hk => by simp only [TL.get, TL.len, llen, b]; exact c2 hk, rfl, c3⟩
    · simp at h
  | bo l =>
    simp only at h
    split at h <;> simp only [Option.some.injEq, reduceCtorEq] at h
    rename_i b hb
    subst h
    obtain ⟨a, b'⟩ := lget_app l b false
    obtain ⟨c1, c3⟩ := toBool_added hb
    exact ⟨by simp [TL.len, llen, lapp], fun i hi => congrArg V.bo (a i hi), fun ρ => by simp only [TL.get, TL.len, llen, b']; exact c1 ρ, fun _ => trivial, rfl, c3⟩
  | st l =>
    cases v <;> simp only [Option.some.injEq, reduceCtorEq] at h
    subst h
    rename_i o
    obtain ⟨a, b⟩ := lget_app l o ByteArray.empty
    exact ⟨by simp [TL.len, llen, lapp], fun i hi => congrArg V.st (a i hi), fun ρ => by simp only [TL.get, TL.len, llen, b], fun hk => by simp only [TL.get, TL.len, llen, b]; exact hk, rfl, rfl⟩

theorem tlNil_spec {K : Nat → Prop} {l' : TL} {v : V} (h : tlNil v = some l') (g : Nat → V) : Added K 0 g v l' := by
  unfold tlNil at h
  split at h
  · simp only [Option.some.injEq] at h; subst h
    exact ⟨rfl, fun i hi => by omega, fun ρ => rfl, fun h => h, rfl, rfl⟩
  · simp only [Option.some.injEq] at h; subst h
    exact ⟨rfl, fun i hi => by omega, fun ρ => rfl, fun h => h, rfl, rfl⟩
  · simp only [Option.some.injEq] at h; subst h
    exact ⟨rfl, fun i hi => by omega, fun ρ => rfl, fun h => h, rfl, rfl⟩
  · split at h
    · rename_i k n hn
      simp only [Option.some.injEq] at h; subst h
      obtain ⟨c1, c2, c3⟩ := toInt_added (K := K) hn
      exact ⟨rfl, fun i hi => by omega, fun ρ => c1 ρ, fun h => c2 h, rfl, c3⟩
    · split at h <;> simp only [Option.some.injEq, reduceCtorEq] at h
      rename_i b hb
      subst h
      obtain ⟨c1, c3⟩ := toBool_added hb
      exact ⟨rfl, fun i hi => by omega, fun ρ => c1 ρ, fun _ => trivial, rfl, c3⟩

/-- The cells behind. -/
theorem Added.cells {K : Nat → Prop} {n : Nat} {g : Nat → V} {v : V} {l' : TL} (h : Added K n g v l') : l'.cells = ((List.range n).flatMap fun j => Sx.cells Env.zero (g j)) ++ Sx.cells Env.zero v := by
  obtain ⟨h1, h2, h3, _⟩ := h
  unfold TL.cells
  rw [h1, List.range_succ, List.flatMap_append]
  congr 1
  · rw [List.flatMap_def, List.flatMap_def]
    congr 1
    exact List.map_congr_left fun i hi => by rw [h2 i (List.mem_range.1 hi)]
  · simp [h3]

section
variable {C : Ctx} {ρ : Env} {fps : Nat → Nat → Prop} {res : List Res} {w0 w : World} {F0 : Nat → Prop}

theorem run_app1 {K : Nat → Prop} {t ty e b n bty cap : Nat} {inf : TypeInfo} {z c v : V} {xv : Value} {xs : List Value} (ht : C.P.underlying t = some (.slice e)) (hZ : C.Z e = some z) (hC : C.ZOK) (hi : C.P.info? e = some inf) (hsz : 0 < vsz z)
    (hown : w.ownsRow 0 e (vsz z) xv n xs) (hb : w.heap[b]? = some (.cells (cells ρ c).toArray bty (0, 0))) (hok : ok K c) (hct : isTp c = false) (hg : getAt 8 c 0 (vsz z) (isAg z) = some v) (hq : pFit n inf.bytes) :
    ∃ v' w', (Builtin.append_ #[t, t] ty #[xv, .slice (some ⟨b, 0, none⟩) 1 cap]).run C.P w = .ok v' w' ∧ w'.ownsRow 0 e (vsz z) v' (n + 1) (xs ++ cells ρ v) ∧ w.grownBy w' xv.ownBlock ∧ ∀ b', v'.ownBlock = some b' → xv.ownBlock = some b' ∨ w.heap.size ≤ b' := by
  obtain ⟨inf', i1, i2, i3, i4, i5⟩ := hC e z hZ
  rw [hi] at i1
  simp only [Option.some.injEq] at i1
  subst i1
  obtain ⟨⟨p, q, e1, e2⟩, e3, e4, e5, e6⟩ := getAt_spec ρ 8 c 0 _ _ v hok hct hg
  have hp : p = [] := List.length_eq_zero_iff.1 e2.symm
  subst hp
  simp only [List.nil_append] at e1
  have hlv := cells_length ρ v e5
  have hzs : (den Env.zero z).cells.size = vsz z := by rw [← cells_length Env.zero z i3]; simp [cells]
  have hnl : (cells ρ v).length = 1 * vsz z := by rw [hlv, e3]; simp
  have hnc : ∀ j u, (cells ρ v)[j]? = some u → w.cell? ((⟨b, 0, none⟩ : Addr).add j) = some u := fun j u hu => by
    rw [add_lit, Nat.zero_add, cell_of_row w b j _ _ _ hb]
    have hj := (List.getElem?_eq_some_iff.1 hu).1
    simp only [List.getElem?_toArray, e1]
    rw [List.getElem?_append_left hj]; exact hu
  have hone := cells_oneCell ρ v e5 e6
  have hown0 := hown
  rcases hown.2 with ⟨rfl, rfl⟩ | ⟨g, cap', cur, rfl, h2, h3, h4, h5, h6, h7⟩
  · have hx : xs = [] := List.length_eq_zero_iff.1 (by have := hown.1; simpa using this)
    subst hx
    obtain ⟨v', w', g1, g2, g3, _⟩ := run_append_own (P := C.P) w w.heap.size t ty e inf (den Env.zero z) (vsz z) inf.bytes ht hi (i2 Env.zero) i5 rfl hzs hsz (.slice none 0 0) 0 [] (World.ownsRow_nil w _ e _)
      ⟨b, 0, none⟩ 1 cap (cells ρ v) hnl hnc hone hq.1 hq.2 (Nat.le_refl _)
    exact ⟨v', w', g1, ⟨g2.1, g2.2.imp id fun ⟨g, cp, cu, a1, a2, a3⟩ => ⟨g, cp, cu, a1, Nat.zero_le _, a3⟩⟩, g3, fun b' hb' => .inr (g2.lt b' hb').1⟩
  · by_cases hroom : n + 1 ≤ cap'
    · obtain ⟨w', g1, g2, g3⟩ := run_append_fits (P := C.P) w 0 t ty e inf (vsz z) ht hi i5 g n cap' xs hown0 ⟨b, 0, none⟩ 1 cap (cells ρ v) hnl hnc hone hroom
      exact ⟨_, w', g1, g2, g3, fun b' hb' => .inl hb'⟩
    · have holds : ∀ j u, xs[j]? = some u → w.cell? ((⟨g, 0, none⟩ : Addr).add j) = some u := fun j u hu => by
        rw [add_lit, Nat.zero_add, hown0.cellAt j (by rw [← hown0.1]; exact (List.getElem?_eq_some_iff.1 hu).1)]; exact hu
      obtain ⟨v', w', g1, g2, g3⟩ := run_append_arg_grows (P := C.P) w t ty e inf (den Env.zero z) (vsz z) inf.bytes ht hi (i2 Env.zero) i5 rfl hzs hsz ⟨g, 0, none⟩ n cap' xs hown0.1 holds ⟨b, 0, none⟩ 1 cap (cells ρ v) hnl hnc (by omega) hq.1 hq.2
      exact ⟨v', w', g1, ⟨g2.1, g2.2.imp id fun ⟨g, cp, cu, a1, a2, a3⟩ => ⟨g, cp, cu, a1, Nat.zero_le _, a3⟩⟩, ⟨g3.os, g3.tape, g3.output, g3.size, fun k hk _ => g3.block k hk (by simp)⟩, fun b' hb' => .inr (g2.lt b' hb').1⟩

def objOf (res : List Res) (v : V) : Option (Nat × Obj) :=
  match v with
  | .lp p 0 => match rget res p with
    | .blk _ (.ob o) => some (p, o)
    | _ => none
  | _ => none

/-- One element is appended. -/
def appV (C : Ctx) (res : List Res) (t : Nat) (x y : V) : Option (Option Prop × V × List Res) :=
  match C.P.underlying t with
  | some (.slice e) => match C.Z e, C.P.info? e with
    | some z, some inf => match y with
      | .sc k 1 _ => match rget res k with
        | .blk _ c => match getAt 8 c 0 (vsz z) (isAg z) with
          | some v => if Nat.blt 0 (vsz z) then
              match x with
              | .nl (.slice none 0 0) => match objOf res v with
                | some (p, o) => if vsz z == 1 then some (some (pFit 0 inf.bytes), .sa res.length, goneL [p] res ++ [.obs e (res.length + 1) [o], .gen res.length]) else none
                | none => (tlNil v).map fun l => (some (pFit 0 inf.bytes), .sa res.length, goneL [] res ++ [.arr (some e) (vsz z) l])
              | .sa j => match rget res j with
                | .arr (some e') esz l => if e' == e && esz == vsz z then (tlApp l v).map fun l' => (some (pFit l.len inf.bytes), .sa res.length, goneL [j] res ++ [.arr (some e) (vsz z) l']) else none
                | .obs e' _ L => match objOf res v with
                  | some (p, o) => if e' == e && vsz z == 1 then some (some (pFit (llen L) inf.bytes), .sa res.length, goneL [j, p] res ++ [.obs e (res.length + 1) (lapp L o), .gen res.length]) else none
                  | none => none
                | _ => none
              | _ => none
            else none
          | none => none
        | _ => none
      | _ => none
    | _, _ => none
  | _ => none

def Env.setSl (ρ : Env) (i : Nat) (a : Addr) (n cap : Nat) (ob : Nat → Nat) : Env :=
  { num := ρ.num, cap := fun j => if j = i then cap else ρ.cap j, adr := fun j => if j = i then a else ρ.adr j, sa := fun j => if j = i then some a else ρ.sa j, sn := fun j => if j = i then n else ρ.sn j,
    ob := fun j => if j = i + 1 then ob else ρ.ob j }

theorem setSl_agree {N : Nat → Prop} {i : Nat} {a : Addr} {n cap : Nat} {ob : Nat → Nat} (h : ¬ N i) (h' : ¬ N (i + 1)) : Env.agree N ρ (ρ.setSl i a n cap ob) := fun j hj => by
  have e1 : j ≠ i := fun e => h (e ▸ hj)
  have e2 : j ≠ i + 1 := fun e => h' (e ▸ hj)
  simp [Env.setSl, e1, e2]

theorem setSl_sl (i : Nat) (a : Addr) (n cap : Nat) (ob : Nat → Nat) : (ρ.setSl i a n cap ob).sl i = .slice (some a) n cap := by simp [Env.sl, Env.setSl]

/-- A new row behind an append, of values. -/
theorem app_arr {K : Nat → Prop} {w' : World} {e esz n : Nat} {g : Nat → V} {v : V} {v' : Value} {l' : TL} {ts : List Nat} (h : HRep ρ fps res (known res) w0 F0 w) (hts : ∀ t ∈ ts, known res t)
    (hadd : Added K n g v l') (hokv : ok K v) (hvs : vsz v = esz) (hold : ∀ j, j < n → ok (fun _ => False) (g j) ∧ isTp (g j) = false ∧ vsz (g j) = esz)
    (hown : w'.ownsRow 0 e esz v' (n + 1) (((List.range n).flatMap fun j => cells Env.zero (g j)) ++ cells ρ v)) {xv : Value} (hgr : w.grownBy w' xv.ownBlock)
    (hx : ∀ b, xv.ownBlock = some b → ∃ t ∈ ts, fps t b) (hnew : ∀ b, v'.ownBlock = some b → xv.ownBlock = some b ∨ w.heap.size ≤ b) (hm : n + 1 ≤ 9223372036854775807) :
    ∃ ρ' fps', v' = den ρ' (.sa res.length) ∧ HRep ρ' fps' (goneL ts res ++ [.arr (some e) esz l']) (known (goneL ts res ++ [.arr (some e) esz l'])) w0 F0 w' ∧ Env.agree (known res) ρ ρ' ∧
      (∀ i, known res i → known (goneL ts res ++ [.arr (some e) esz l']) i) ∧ known (goneL ts res ++ [.arr (some e) esz l']) res.length := by
  obtain ⟨a1, a2, a3, a4, a5, a6⟩ := hadd
  have hown' := hown
  rcases hown.2 with ⟨_, h0⟩ | ⟨b, cap, cur, rfl, _, hb, _⟩
  · omega
  have hnk : ¬ known res res.length := fun hk => by have := rget_lt hk; omega
  have hnk' : ¬ known res (res.length + 1) := fun hk => by have := rget_lt hk; omega
  have hcz : cells ρ v = cells Env.zero v := by
    rw [← a3 ρ, ← a3 Env.zero]
    exact cells_agree (N := fun _ => False) (fun _ h => h.elim) _ (a4 hokv)
  have hblt : b < w'.heap.size := (Array.getElem?_eq_some_iff.1 hb).1
  obtain ⟨fps', g1, g2, g3, g4⟩ := h.newres (ρ' := ρ.setSl res.length ⟨b, 0, none⟩ (n + 1) cap (fun _ => 0)) (w' := w') ts (.arr (some e) esz l') [] (fun x => x = b) (by simp) hts (by simp) (setSl_agree hnk hnk')
    (by
      refine ⟨fun j hj => ?_, by simp [Env.setSl, a1], by rw [a1]; exact hm, fun a ha => by simp [Env.setSl] at ha ⊢; exact ha.symm, fun _ => by simp [Env.setSl], fun _ => by simp [Env.setSl], .inr ⟨e, fun e' he => by simpa using he.symm, ?_, fun a ha => by simp [Env.setSl] at ha; rw [← ha]⟩⟩
      · by_cases hjn : j < n
        · rw [a2 j hjn]; exact hold j hjn
        · have : j = n := by omega
          subst this
          exact ⟨a4 hokv, a5, a6.trans hvs⟩
      · rw [setSl_sl, a1, Added.cells (K := K) ⟨a1, a2, a3, a4, a5, a6⟩, ← hcz]
        exact hown')
    (fun x hx' => by
      subst hx'
      rcases hnew _ rfl with h1 | h1
      · exact .inl (hx _ h1)
      · exact .inr ⟨h1, hblt⟩)
    hgr.os hgr.tape hgr.output hgr.size (fun x hxl hno => hgr.block x hxl fun hh => by
      obtain ⟨t, ht, hft⟩ := hx x hh.symm
      exact hno t ht hft)
  exact ⟨_, fps', by simp [den, Env.setSl], g1, g2, g3, g4⟩

/-- A new row behind an append, of a pointer to an object. -/
theorem app_obs {w' : World} {e p bty : Nat} {L : List Obj} {o : Obj} {v' : Value} {ts : List Nat} {ob : Nat → Nat} (h : HRep ρ fps res (known res) w0 F0 w) (hts : ∀ t ∈ ts, known res t)
    (hp : p ∈ ts) (hrp : rget res p = .blk bty (.ob o)) (hL : ∀ x ∈ L, x.wf)
    (hobs : ∀ j, j < L.length → (∃ t ∈ ts, fps t (ob j)) ∧ ∃ t, w.heap[ob j]? = some (.cells (obCells (L.getD j free)).toArray t (0, 0)))
    (hown : w'.ownsRow 0 e 1 v' (L.length + 1) (((List.range L.length).map fun j => Value.pointer (some ⟨ob j, 0, none⟩)) ++ cells ρ (.lp p 0))) {xv : Value} (hgr : w.grownBy w' xv.ownBlock)
    (hx : ∀ b, xv.ownBlock = some b → (∃ t ∈ ts, fps t b) ∧ (∀ j, j < L.length → ob j ≠ b) ∧ ρ.num p ≠ b) (hnew : ∀ b, v'.ownBlock = some b → xv.ownBlock = some b ∨ w.heap.size ≤ b) (hm : L.length + 1 ≤ 9223372036854775807) :
    ∃ ρ' fps', v' = den ρ' (.sa res.length) ∧ HRep ρ' fps' (goneL ts res ++ [.obs e (res.length + 1) (lapp L o), .gen res.length]) (known (goneL ts res ++ [.obs e (res.length + 1) (lapp L o), .gen res.length])) w0 F0 w' ∧ Env.agree (known res) ρ ρ' ∧
      (∀ i, known res i → known (goneL ts res ++ [.obs e (res.length + 1) (lapp L o), .gen res.length]) i) ∧ known (goneL ts res ++ [.obs e (res.length + 1) (lapp L o), .gen res.length]) res.length := by
  have hown' := hown
  rcases hown.2 with ⟨_, h0⟩ | ⟨b, cap, cur, rfl, _, hb, _⟩
  · omega
  have hnk : ¬ known res res.length := fun hk => by have := rget_lt hk; omega
  have hnk' : ¬ known res (res.length + 1) := fun hk => by have := rget_lt hk; omega
  have hblt : b < w'.heap.size := (Array.getElem?_eq_some_iff.1 hb).1
  have hkp := hts p hp
  have hhp := h.holds p hkp
  rw [hrp] at hhp
  obtain ⟨p1, _, p3, p4⟩ := hhp
  have p1 : o.wf := p1
  rw [cells_ob] at p4
  have keep : ∀ x y, w.heap[x]? = some y → (∀ b, xv.ownBlock = some b → x ≠ b) → w'.heap[x]? = some y := fun x y hy hne => by
    rw [hgr.block x (Array.getElem?_eq_some_iff.1 hy).1 fun hh => hne x hh.symm rfl]; exact hy
  have hob : ∀ j, j < L.length + 1 → ∃ y, (if j < L.length then ob j else ρ.num p) = y ∧ (∃ t ∈ ts, fps t y) ∧ ∃ t, w'.heap[y]? = some (.cells (obCells ((lapp L o).getD j free)).toArray t (0, 0)) := by
    intro j hj
    by_cases hjl : j < L.length
    · obtain ⟨f1, t, f2⟩ := hobs j hjl
      refine ⟨ob j, by rw [if_pos hjl], f1, t, ?_⟩
      rw [show (lapp L o).getD j free = L.getD j free by simp [lapp, List.getD_eq_getElem?_getD, List.getElem?_append_left hjl]]
      exact keep _ _ f2 fun b hb => (hx b hb).2.1 j hjl
    · refine ⟨ρ.num p, by rw [if_neg hjl], ⟨p, hp, p3⟩, bty, ?_⟩
      have : j = L.length := by omega
      subst this
      rw [show (lapp L o).getD L.length free = o by simp [lapp, List.getD_eq_getElem?_getD]]
      exact keep _ _ p4 fun b hb => (hx b hb).2.2
  have hlen : (lapp L o).length = L.length + 1 := by simp [lapp]
  have hgk : known (goneL ts res ++ [.obs e (res.length + 1) (lapp L o), .gen res.length]) (res.length + 1) := by
    unfold known; rw [rget_append, goneL_length, if_neg (by omega), show res.length + 1 - res.length = 1 by omega]; simp [rget]
  obtain ⟨fps', g1, g2, g3, g4⟩ := h.newres (ρ' := ρ.setSl res.length ⟨b, 0, none⟩ (L.length + 1) cap (fun j => if j < L.length then ob j else ρ.num p)) (w' := w') ts (.obs e (res.length + 1) (lapp L o)) [.gen res.length]
    (fun x => x = b ∨ ∃ j, j < L.length + 1 ∧ x = if j < L.length then ob j else ρ.num p) (by simp) hts (by simp) (setSl_agree hnk hnk')
    (by
      refine ⟨hgk, fun x hx => ?_, by simp [Env.setSl, hlen], by rw [hlen]; exact hm, fun a ha => by simp [Env.setSl] at ha ⊢; exact ⟨ha.symm, .inl (by rw [← ha])⟩, fun _ => by simp [Env.setSl], ?_, fun j hj => ?_⟩
      · rcases List.mem_append.1 hx with hx | hx
        · exact hL x hx
        · simp only [List.mem_singleton] at hx; subst hx; exact p1
      · rw [setSl_sl, hlen]
        have : ((List.range (L.length + 1)).map fun j => Value.pointer (some ⟨(ρ.setSl res.length ⟨b, 0, none⟩ (L.length + 1) cap (fun j => if j < L.length then ob j else ρ.num p)).ob (res.length + 1) j, 0, none⟩)) =
            ((List.range L.length).map fun j => Value.pointer (some ⟨ob j, 0, none⟩)) ++ cells ρ (.lp p 0) := by
          rw [List.range_succ, List.map_append]
          congr 1
          · refine List.map_congr_left fun j hj => ?_
            simp [Env.setSl, List.mem_range.1 hj]
          · simp [Env.setSl, cells, den, Value.cells]
        rw [this]
        exact hown'
      · rw [hlen] at hj
        obtain ⟨y, y1, _, t, y3⟩ := hob j hj
        have hoby : (ρ.setSl res.length ⟨b, 0, none⟩ (L.length + 1) cap (fun j => if j < L.length then ob j else ρ.num p)).ob (res.length + 1) j = y := by simp [Env.setSl, y1]
        rw [hoby]
        exact ⟨.inr ⟨j, hj, y1.symm⟩, t, y3⟩)
    (fun x hx' => by
      rcases hx' with rfl | ⟨j, hj, rfl⟩
      · rcases hnew _ rfl with h1 | h1
        · exact .inl (hx _ h1).1
        · exact .inr ⟨h1, hblt⟩
      · obtain ⟨y, y1, y2, _⟩ := hob j hj
        rw [y1]
        exact .inl y2)
    hgr.os hgr.tape hgr.output hgr.size (fun x hxl hno => hgr.block x hxl fun hh => by
      obtain ⟨t, ht, hft⟩ := (hx x hh.symm).1
      exact hno t ht hft)
  exact ⟨_, fps', by simp [den, Env.setSl], g1, g2, g3, g4⟩

theorem objOf_spec {v : V} {p : Nat} {o : Obj} (h : objOf res v = some (p, o)) : v = .lp p 0 ∧ ∃ bty, rget res p = .blk bty (.ob o) := by
  unfold objOf at h
  split at h
  · split at h <;> simp only [Option.some.injEq, Prod.mk.injEq, reduceCtorEq] at h
    rename_i hr
    obtain ⟨rfl, rfl⟩ := h
    exact ⟨rfl, _, hr⟩
  · simp at h

theorem maxLen_le {n : Nat} (h : n ≤ maxLen) : n ≤ 9223372036854775807 := by
  simp only [maxLen] at h
  omega

theorem ptrs_not_obj {w : World} {e : Nat} {xv : Value} {n : Nat} {f : Nat → Value} (h : w.ownsRow 0 e 1 xv n ((List.range n).map f)) (hf : ∀ j, ∃ a, f j = .pointer a) {b x t : Nat} {o : Obj} (hb : xv.ownBlock = some b)
    (hx : w.heap[x]? = some (.cells (obCells o).toArray t (0, 0))) (hn : 0 < n) : x ≠ b := by
  rintro rfl
  rcases h.2 with ⟨_, h0⟩ | ⟨g, cap, cur, rfl, _, h3, _, _, _, h7⟩
  · omega
  · simp only [Value.ownBlock, Option.some.injEq] at hb
    subst hb
    rw [h3] at hx
    simp only [Option.some.injEq, Go.Obj.cells.injEq] at hx
    rw [hx.1] at h7
    have h0 := congrArg (·[0]?) h7
    obtain ⟨a, ha⟩ := hf 0
    simp [obCells, i64, hn, ha] at h0

theorem appV_spec {t ty : Nat} {x y r : V} {q : Option Prop} {res' : List Res} (hC : C.ZOK) (h : HRep ρ fps res (known res) w0 F0 w) (ha : appV C res t x y = some (q, r, res')) (hq : holdsO q) (hx : ok (known res) x) :
    ∃ w' ρ' fps', (Builtin.append_ #[t, t] ty #[den ρ x, den ρ y]).run C.P w = .ok (den ρ' r) w' ∧ HRep ρ' fps' res' (known res') w0 F0 w' ∧ Env.agree (known res) ρ ρ' ∧ (∀ i, known res i → known res' i) ∧ ok (known res') r := by
  unfold appV at ha
  split at ha
  · rename_i e ht
    split at ha
    · rename_i z inf hZ hi
      split at ha
      · rename_i k cap
        split at ha
        · rename_i bty c hk
          split at ha
          · rename_i v hg
            split at ha
            · rename_i hsz
              have hsz : 0 < vsz z := by simpa using hsz
              have hkk := h.holds k (by unfold known; rw [hk]; simp)
              rw [hk] at hkk
              obtain ⟨c1, c2, c3, c4⟩ := hkk
              obtain ⟨_, v2, v3, v4, v5⟩ := getAt_spec ρ 8 c 0 _ _ v c1 c2 hg
              have run : ∀ {n : Nat} {xv : Value} {xs : List Value}, w.ownsRow 0 e (vsz z) xv n xs → pFit n inf.bytes → _ := fun {n xv xs} ho hf => run_app1 (C := C) (ty := ty) (cap := cap) ht hZ hC hi hsz ho c4 c1 c2 hg hf
              split at ha
              · -- nil
                split at ha
                · rename_i p o hob
                  obtain ⟨rfl, bt, hrp⟩ := objOf_spec hob
                  split at ha <;> simp only [Option.some.injEq, Prod.mk.injEq, reduceCtorEq] at ha
                  rename_i hz1
                  have hz1 := beq_iff_eq.1 hz1
                  obtain ⟨rfl, rfl, rfl⟩ := ha
                  obtain ⟨v', w', g1, g2, g3, g4⟩ := run (World.ownsRow_nil w 0 e (vsz z)) hq
                  rw [hz1] at g2
                  have hkp : known res p := by unfold known; rw [hrp]; simp
                  obtain ⟨ρ', fps', f1, f2, f3, f4, f5⟩ := app_obs (L := []) (ob := fun _ => 0) (ts := [p]) h (by simpa using hkp) (by simp) hrp (by simp) (fun j hj => by simp at hj) g2 g3 (fun b hb => by simp [Value.ownBlock] at hb) g4 (by simp)
                  exact ⟨w', ρ', fps', by rw [← f1]; exact g1, f2, f3, f4, f5⟩
                · cases hl : tlNil v with
                  | none => simp [hl] at ha
                  | some l =>
                    simp only [hl, Option.map_some, Option.some.injEq, Prod.mk.injEq] at ha
                    obtain ⟨rfl, rfl, rfl⟩ := ha
                    obtain ⟨v', w', g1, g2, g3, g4⟩ := run (World.ownsRow_nil w 0 e (vsz z)) hq
                    obtain ⟨ρ', fps', f1, f2, f3, f4, f5⟩ := app_arr (n := 0) (g := fun _ => v) (ts := []) h (by simp) (tlNil_spec (K := known res) hl _) v4 v2 (fun j hj => by omega) (by simpa using g2) g3 (fun b hb => by simp [Value.ownBlock] at hb) g4 (by simp)
                    exact ⟨w', ρ', fps', by rw [← f1]; exact g1, f2, f3, f4, f5⟩
              · rename_i j
                split at ha
                · rename_i e' esz l hj
                  split at ha
                  · rename_i hc
                    simp only [Bool.and_eq_true, beq_iff_eq] at hc
                    obtain ⟨rfl, rfl⟩ := hc
                    cases hl : tlApp l v with
                    | none => simp [hl] at ha
                    | some l' =>
                      simp only [hl, Option.map_some, Option.some.injEq, Prod.mk.injEq] at ha
                      obtain ⟨rfl, rfl, rfl⟩ := ha
                      have hjj := h.holds j (by unfold known; rw [hj]; simp)
                      rw [hj] at hjj
                      obtain ⟨a1, a2, a3, a4, a5, a6, a7⟩ := hjj
                      rcases a7 with ⟨b1, _⟩ | ⟨e2, b1, b2, b3⟩
                      · simp at b1
                      · have := b1 e' rfl
                        subst this
                        obtain ⟨v', w', g1, g2, g3, g4⟩ := run b2 hq
                        obtain ⟨ρ', fps', f1, f2, f3, f4, f5⟩ := app_arr (n := l.len) (g := l.get) (ts := [j]) h (by have hx : known res j := hx; simpa using hx) (tlApp_spec (K := known res) hl) v4 v2 a1 g2 g3 (fun b hb => by
                          refine ⟨j, by simp, ?_⟩
                          cases hs : ρ.sa j with
                          | none => simp [Env.sl, hs, Value.ownBlock] at hb
                          | some a =>
                            simp only [Env.sl, hs, Value.ownBlock, Option.some.injEq] at hb
                            rw [← hb]; exact b3 a hs) g4 (maxLen_le hq.1)
                        exact ⟨w', ρ', fps', by rw [← f1]; exact g1, f2, f3, f4, f5⟩
                  · simp at ha
                · rename_i e' q0 L hj
                  split at ha
                  · rename_i p o hob
                    obtain ⟨rfl, bt, hrp⟩ := objOf_spec hob
                    split at ha <;> simp only [Option.some.injEq, Prod.mk.injEq, reduceCtorEq] at ha
                    rename_i hc
                    simp only [Bool.and_eq_true, beq_iff_eq] at hc
                    obtain ⟨rfl, hz1⟩ := hc
                    obtain ⟨rfl, rfl, rfl⟩ := ha
                    have hkj : known res j := by unfold known; rw [hj]; simp
                    have hkp : known res p := by unfold known; rw [hrp]; simp
                    have hjj := h.holds j hkj
                    rw [hj] at hjj
                    obtain ⟨_, a1, a2, a3, a4, a5, a6, a7⟩ := hjj
                    have hne : j ≠ p := fun e => by rw [e, hrp] at hj; simp at hj
                    have hpp := h.holds p hkp
                    rw [hrp] at hpp
                    obtain ⟨_, _, p3, _⟩ := hpp
                    obtain ⟨v', w', g1, g2, g3, g4⟩ := run (by rw [hz1]; exact a6) hq
                    rw [hz1] at g2
                    obtain ⟨ρ', fps', f1, f2, f3, f4, f5⟩ := app_obs (L := L) (ob := ρ.ob q0) (ts := [j, p]) h (by simp [hkj, hkp]) (by simp) hrp a1 (fun i hi => ⟨⟨j, by simp, (a7 i hi).1⟩, (a7 i hi).2⟩) g2 g3 (fun b hb => by
                      have hb' := hb
                      cases hs : ρ.sa j with
                      | none => simp [Env.sl, hs, Value.ownBlock] at hb
                      | some a =>
                        simp only [den, hs, Value.ownBlock, Option.some.injEq, Env.sl] at hb
                        have hfb : fps j b := by rw [← hb]; exact (a4 a hs).2
                        refine ⟨⟨j, by simp, hfb⟩, fun i hi => ?_, fun e => h.disj j p b hkj hkp hne hfb (e ▸ p3)⟩
                        obtain ⟨_, t, hti⟩ := a7 i hi
                        exact ptrs_not_obj a6 (fun i => ⟨_, rfl⟩) hb' hti (by omega)) g4 (maxLen_le hq.1)
                    exact ⟨w', ρ', fps', by rw [← f1]; exact g1, f2, f3, f4, f5⟩
                  · simp at ha
                · simp at ha
              · simp at ha
            · simp at ha
          · simp at ha
        · simp at ha
      · simp at ha
    · simp at ha
  · simp at ha

end
end Go.Sx
