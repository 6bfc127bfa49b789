/- Messages, and what is done with them. No condition. -/
import Derived.Test.YtfalhknkaebfoaaSpQ
import Derived.Test.YtfalhknkaebfoaaSpP
set_option linter.unusedVariables false
set_option linter.unusedSimpArgs false
namespace Go.Sx
structure Msg where
  code : Int
  data : ByteArray
  k0 : Key
  k1 : Key
  k2 : Key
def msgV (m : Msg) : V := .ag [.it .i64 m.code, .st m.data, .ag [.key m.k0, .key m.k1, .key m.k2]]
def msg0 : Msg := ⟨0, ⟨#[]⟩, void, void, void⟩
def rMsg (v : V) : Option Msg :=
  match v with
  | .ag l => match l with
    | [a, b, c] => match rI .i64 a with
      | some n => match rStr b with
        | some s => match c with
          | .ag l' => match l' with
            | [x, y, z] => match rK x with
              | some k => match rK y with
                | some k' => match rK z with
                  | some k'' => some ⟨n, s, k, k', k''⟩
                  | none => none
                | none => none
              | none => none
            | _ => none
          | _ => none
        | none => none
      | none => none
    | _ => none
  | _ => none
theorem rMsg_ok : RdOK rMsg msgV := by
  intro v x h
  unfold rMsg at h
  split at h
  case h_2 => simp at h
  split at h
  case h_2 => simp at h
  rename_i a b c
  split at h
  case h_2 => simp at h
  rename_i n hn
  split at h
  case h_2 => simp at h
  rename_i s hs
  split at h
  case h_2 => simp at h
  split at h
  case h_2 => simp at h
  rename_i p q r
  split at h
  case h_2 => simp at h
  rename_i k hk
  split at h
  case h_2 => simp at h
  rename_i k' hk'
  split at h <;> simp only [Option.some.injEq, reduceCtorEq] at h
  rename_i k'' hk''
  subst h
  refine ⟨fun ρ => ?_, fun K hK => ?_⟩
  · simp only [den, msgV, cellsL, (rI_ok .i64 _ _ hn).1 ρ, (rStr_ok _ _ hs).1 ρ, (rK_ok _ _ hk).1 ρ, (rK_ok _ _ hk').1 ρ, (rK_ok _ _ hk'').1 ρ]
  · obtain ⟨h1, h2⟩ := hK
    obtain ⟨g1, g2⟩ := h1.2.2.1
    exact ⟨⟨(rI_ok .i64 _ _ hn).2 K h1.1, (rStr_ok _ _ hs).2 K h1.2.1, ⟨⟨(rK_ok _ _ hk).2 K g1.1, (rK_ok _ _ hk').2 K g1.2.1, (rK_ok _ _ hk'').2 K g1.2.2.1, trivial⟩, by simp [okC]⟩, trivial⟩, by simp [okC]⟩
def mA : Arg Msg := valA rMsg msgV
theorem mA_ok : ArgOK mA := valA_ok rMsg_ok (fun _ => rfl) fun v x h => by cases v <;> simp [rMsg] at h; rfl
def q_mOk (L : List Obj) (m : Msg) : Bool := decide (szI m.data ≤ 32) && q_may L m.k0 && q_may L m.k1 && q_may L m.k2
def q_cnt (L : List Obj) (m : Msg) : Msg := ⟨m.code, m.data, q_prep L m.k0, q_prep L m.k1, q_prep L m.k2⟩
def q_hdS (s : Slots) (m : Msg) (a : Key) : Slots := (((((s.put 2 (q_num 1)).put 3 (q_num m.code)).put 12 m.k0).put 13 m.k1).put 14 m.k2).put 15 a
def q_hdB (s : ByteArray) (g : Int) : Bytes := bput (noBytes.put 0 (UInt8.ofNat s.size)) 1 g.toNat s
def q_hdO (o : Obj) (m : Msg) (a : Key) : Obj := ⟨o.kind, o.count, o.calls, q_hdS o.slots m a, q_hdB m.data (szI m.data)⟩
/-- So many bytes of it handed over. -/
def q_hdW (L : List Obj) (i : Int) (m : Msg) (a : Key) (g : Int) : Obj := ⟨(lget L i.toNat free).kind, (lget L i.toNat free).count, (lget L i.toNat free).calls, q_hdS (lget L i.toNat free).slots m a, q_hdB m.data g⟩
def q_hdL (L : List Obj) (i : Int) (m : Msg) (a : Key) : List Obj := lset L i.toNat (q_hdO (lget L i.toNat free) m a)
def hdB : ArgL (List Obj × Int × Msg × Key × Unit) := consA liA (consA iA (consA mA (consA kA nilA)))
theorem hdB_ok : ArgLOK hdB := consA_ok liA_ok (consA_ok iA_ok (consA_ok mA_ok (consA_ok kA_ok nilA_ok)))
def q_hdQ (L : List Obj) (i : Int) (m : Msg) : Prop := q_rputQ L i ∧ (0 ≤ i ∧ i < (llen L : Int)) ∧ szI m.data ≤ 32
def h_rhand : HCt := hMk hdB (fun x => q_hdQ x.1 x.2.1 x.2.2.1) (fun _ => true) (fun _ => nilp) (fun _ n => .sa n) fun x => .arr (some tO) 163 (.ob (q_hdL x.1 x.2.1 x.2.2.1 x.2.2.2.1))
def g_rmay : Ct := mkR (consA liA (consA mA nilA)) (fun x => some (q_strOk x.2.1.data)) fun x => .bo (q_mOk x.1 x.2.1)
def g_rcnt : Ct := mkR (consA liA (consA mA nilA)) (fun _ => none) fun x => msgV (q_cnt x.1 x.2.1)
/-- An invocation: its error, the key that answers, the state of who invokes. -/
def q_ivE (L : List Obj) (i : Int) (k : Key) (md : Int) (m : Msg) : Int :=
  if llen L = 0 then 1 else if ¬ (1 ≤ md ∧ md ≤ 3) ∨ q_may L k = false ∨ q_mOk L m = false then 2 else if q_pst L i ≠ 1 then 230
  else if q_is L k = false ∨ ¬ (k.kind = 6 ∨ k.kind = 7) ∨ q_pst L k.oid < 0 then 231
  else if (k.kind = 6 ∧ q_pst L k.oid ≠ 0 ∧ ¬ (md = 3 ∧ k.oid = i)) ∨ (k.kind = 7 ∧ q_pst L k.oid ≠ 2) then 232
  else if (k.kind = 7 ∧ 4294967295 ≤ (lget L k.oid.toNat free).calls) ∨ (md = 1 ∧ 4294967295 ≤ (lget L i.toNat free).calls) then 233 else 0
def q_ivA (L : List Obj) (i md : Int) : Key := if md = 1 then ⟨7, i, (lget L i.toNat free).count, (lget L i.toNat free).calls, 0, 0⟩ else void
def q_ivN (md : Int) : Int := if md = 1 then 2 else if md = 2 then 1 else 0
/-- Nothing speaks against it, beside the number of calls. -/
def q_ivF (L : List Obj) (i : Int) (k : Key) (md : Int) (m : Msg) : Prop :=
  llen L ≠ 0 ∧ (1 ≤ md ∧ md ≤ 3) ∧ q_may L k = true ∧ q_mOk L m = true ∧ q_pst L i = 1 ∧ q_is L k = true ∧ (k.kind = 6 ∨ k.kind = 7) ∧ 0 ≤ q_pst L k.oid ∧
  ¬ ((k.kind = 6 ∧ q_pst L k.oid ≠ 0 ∧ ¬ (md = 3 ∧ k.oid = i)) ∨ (k.kind = 7 ∧ q_pst L k.oid ≠ 2)) ∧ ¬ (k.kind = 7 ∧ 4294967295 ≤ (lget L k.oid.toNat free).calls)
def q_ivZ (L : List Obj) (i : Int) (k : Key) (md : Int) (m : Msg) : Prop := q_ivE L i k md m = 0
def q_clO (o : Obj) : Obj := { o with calls := o.calls + 1 }
def q_iv1 (L : List Obj) (i md : Int) : List Obj := lset L i.toNat (q_bcO (lget L i.toNat free) (q_ivN md))
def q_iv2 (L : List Obj) (i : Int) (k : Key) (md : Int) : List Obj := if k.kind = 7 then lset (q_iv1 L i md) k.oid.toNat (q_clO (lget (q_iv1 L i md) k.oid.toNat free)) else q_iv1 L i md
def q_ivL (L : List Obj) (i : Int) (k : Key) (md : Int) (m : Msg) : List Obj := if q_ivE L i k md m = 0 then q_hdL (q_iv2 L i k md) k.oid (q_cnt L m) (q_ivA L i md) else L
def q_ivC (L : List Obj) (i : Int) (k : Key) (md : Int) (m : Msg) : Bool := decide (q_ivE L i k md m = 0)
/-- An answer. -/
def q_anE (L : List Obj) (i : Int) (m : Msg) : Int := if llen L = 0 then 1 else if q_mOk L m = false then 2 else if q_pst L i ≠ 1 then 230 else 0
def q_anL (L : List Obj) (i : Int) (m : Msg) : List Obj := if q_anE L i m = 0 then q_hdL L i (q_cnt L m) void else L
def q_anC (L : List Obj) (i : Int) (m : Msg) : Bool := decide (q_anE L i m = 0)
/-- What it was told last. -/
def q_tdE (L : List Obj) (i : Int) : Int := if llen L = 0 then 1 else if q_pst L i < 0 then 230 else 0
def q_tdS (o : Obj) : ByteArray := if (o.bytes.at 0).toNat ≤ 32 then bsub o.bytes 1 (1 + (o.bytes.at 0).toNat) else ⟨#[]⟩
def q_tdN (o : Obj) : Int := if (o.slots.at 3).kind = 1 then (o.slots.at 3).value else 0
def q_tdM (L : List Obj) (i : Int) : Msg := if q_tdE L i = 0 then ⟨q_tdN (lget L i.toNat free), q_tdS (lget L i.toNat free), q_prep L ((lget L i.toNat free).slots.at 12), q_prep L ((lget L i.toNat free).slots.at 13), q_prep L ((lget L i.toNat free).slots.at 14)⟩ else msg0
def q_tdZ (L : List Obj) (i : Int) : Prop := q_tdE L i = 0
abbrev tM : Nat := 55
def bcB : ArgL (List Obj × Int × Int × Unit) := consA liA (consA iA (consA iA nilA))
theorem bcB_ok : ArgLOK bcB := consA_ok liA_ok (consA_ok iA_ok (consA_ok iA_ok nilA_ok))
def q_bcZ (L : List Obj) (i st : Int) : Prop := q_bcE L i st = 0 ∧ q_okL L
def h_rbec1 : HCt := hMk bcB (fun x => q_bcZ x.1 x.2.1 x.2.2.1) (fun _ => true) (fun _ => nilp) (fun _ n => .tp [.sa n, .ci .i64 0]) fun x => .arr (some tO) 163 (.ob (q_bcL x.1 x.2.1 x.2.2.1))
def ivB : ArgL (Int × Key × Int × Msg × Unit) := consA iA (consA kA (consA iA (consA mA nilA)))
theorem ivB_ok : ArgLOK ivB := consA_ok iA_ok (consA_ok kA_ok (consA_ok iA_ok (consA_ok mA_ok nilA_ok)))
def anB : ArgL (Int × Msg × Unit) := consA iA (consA mA nilA)
theorem anB_ok : ArgLOK anB := consA_ok iA_ok (consA_ok mA_ok nilA_ok)
def h_rinv : HCt := hLx (rdL ivB) (fun L x => q_okL L ∧ q_strOk x.2.2.2.1.data) (fun L x => q_ivC L x.1 x.2.1 x.2.2.1 x.2.2.2.1) (fun L x => q_ivL L x.1 x.2.1 x.2.2.1 x.2.2.2.1) fun L x => [.it .i64 (q_ivE L x.1 x.2.1 x.2.2.1 x.2.2.2.1)]
def h_rans : HCt := hLx (rdL anB) (fun L x => q_okL L ∧ q_strOk x.2.1.data) (fun L x => q_anC L x.1 x.2.1) (fun L x => q_anL L x.1 x.2.1) fun L x => [.it .i64 (q_anE L x.1 x.2.1)]
def g_rtold : Ct := mkR (consA liA iQ) (fun _ => none) fun x => .tp [msgV (q_tdM x.1 x.2.1), .it .i64 (q_tdE x.1 x.2.1)]
def g_told : Ct := mkR (consA sA iQ) (fun _ => none) fun x => .tp [msgV (q_tdM (stL x.1) x.2.1), .it .i64 (q_tdE (stL x.1) x.2.1)]
abbrev tA : Nat := 128
def pacV (m : Msg) (s : V) (i : Int) (k : Key) (md : Int) : V := .ag [.it .i64 m.code, .st m.data, .ag [.key m.k0, .key m.k1, .key m.k2], s, .it .i64 i, .key k, .it .i64 md]
def h_inv : HCt := hSr (rdL ivB) (fun x => q_strOk x.2.2.2.1.data) (fun L x => q_okL L ∧ q_strOk x.2.2.2.1.data) (fun L x => .it .i64 (q_ivE L x.1 x.2.1 x.2.2.1 x.2.2.2.1)) fun L x => q_ivL L x.1 x.2.1 x.2.2.1 x.2.2.2.1
def h_ans : HCt := hSr (rdL anB) (fun x => q_strOk x.2.1.data) (fun L x => q_okL L ∧ q_strOk x.2.1.data) (fun L x => .it .i64 (q_anE L x.1 x.2.1)) fun L x => q_anL L x.1 x.2.1
/-- The size of no store. -/
def g_siz0 : Ct := fun res _ xs => match xs with
  | [a] => match rS tS eS res a with
    | some (_, L) => match L with
      | [] => some (none, .ci .i64 0, [])
      | _ => none
    | none => none
  | _ => none
theorem siz0_ok {P : Program} {f : Nat} (h : CtOK P f g_size) : CtOK P f g_siz0 := by
  intro ρ fps res K w0 F0 w nid args q x new hH hargs hg hq hfr
  unfold g_siz0 at hg
  split at hg
  case h_2 => simp at hg
  rename_i a
  split at hg
  case h_2 => simp at hg
  rename_i o L hr
  split at hg <;> simp only [Option.some.injEq, Prod.mk.injEq, reduceCtorEq] at hg
  obtain ⟨rfl, rfl, rfl⟩ := hg
  obtain ⟨h1, h2⟩ := h ρ fps res K w0 F0 w nid [a] none (.it .i64 (q_size [])) [] hH hargs (by unfold g_size mkS; simp only [hr]) trivial hfr
  refine ⟨h1.mono ?_, h2⟩
  rintro e w' ⟨v, he, ρ', g, hv, _⟩
  refine ⟨v, he, ρ', g, hv, ?_⟩
  simp [ok, inR]
def kdX (nid : Nat) : V := .mp nid
def kdN (nid : Nat) : List Res := [.mp .i64 [6, 7] [.fn 98 [], .fn 99 []]]
/-- All that run. -/
def q_runG (L : List Obj) (g : Int) : List Int := ((List.range g.toNat).filter fun (j : Nat) => decide (q_pst L (j : Int) = 1)).map Int.ofNat
def q_invR1 (L : List Obj) (g : Int) : Prop := 0 ≤ g ∧ g ≤ (llen L : Int)
def q_shortL (L : List Obj) : Prop := L.length ≤ 1000
def h_rrun : HCt := hMk (consA liA nilA) (fun x => q_shortL x.1) (fun _ => true) (fun _ => nilp) (fun _ n => .sa n) fun x => .arr (some tI) 1 (.it .i64 (q_runG x.1 (n2i (llen x.1))))
def h_run : HCt := hMk (consA sA nilA) (fun x => q_shortL (stL x.1)) (fun _ => true) (fun _ => nilp) (fun _ n => .sa n) fun x => .arr (some tI) 1 (.it .i64 (q_runG (stL x.1) (n2i (llen (stL x.1)))))
end Go.Sx
