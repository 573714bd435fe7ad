import PyProof.Rows.All
import Wide.All
import OpenK.AllK
import Wide.FinOn
import PySem.Challenge.RW_ui0505_02
set_option Elab.async false
set_option maxRecDepth 100000
set_option maxHeartbeats 8000000
section
namespace Mine

inductive Fm where
  | tt | ff
  | at (i : Fin 3)
  | no (a : Fm)
  | and (a b : Fm)
  | or (a b : Fm)
  | imp (a b : Fm)
  | iff (a b : Fm)
  deriving DecidableEq

namespace Fm
def ev (v : Fin 3 → Bool) : Fm → Bool
  | .tt => true
  | .ff => false
  | .at i => v i
  | .no a => !a.ev v
  | .and a b => a.ev v && b.ev v
  | .or a b => a.ev v || b.ev v
  | .imp a b => !a.ev v || b.ev v
  | .iff a b => a.ev v == b.ev v
/-- the parts -/
def size : Fm → Nat
  | .tt => 1
  | .ff => 1
  | .at _ => 1
  | .no a => a.size + 1
  | .and a b => a.size + b.size + 1
  | .or a b => a.size + b.size + 1
  | .imp a b => a.size + b.size + 1
  | .iff a b => a.size + b.size + 1
/-- how deep -/
def dep : Fm → Nat
  | .tt => 1
  | .ff => 1
  | .at _ => 1
  | .no a => a.dep + 1
  | .and a b => max a.dep b.dep + 1
  | .or a b => max a.dep b.dep + 1
  | .imp a b => max a.dep b.dep + 1
  | .iff a b => max a.dep b.dep + 1
/-- how deep inward goes -/
def idep : Fm → Nat
  | .tt => 1
  | .ff => 1
  | .at _ => 1
  | .no a => a.idep + 1
  | .and a b => max a.idep b.idep + 1
  | .or a b => max a.idep b.idep + 1
  | .imp a b => max a.idep b.idep + 4
  | .iff a b => max a.idep b.idep + 4
/-- the eight rows -/
def bits : Fm → Nat
  | .tt => 255
  | .ff => 0
  | .at i => if i = 0 then 240 else if i = 1 then 204 else 170
  | .no a => 255 - a.bits
  | .and a b => a.bits &&& b.bits
  | .or a b => a.bits ||| b.bits
  | .imp a b => (255 - a.bits) ||| b.bits
  | .iff a b => 255 - (a.bits ^^^ b.bits)

def rowV (r : Nat) : Fin 3 → Bool := fun i => if i = 0 then decide (r / 4 % 2 = 1) else if i = 1 then decide (r / 2 % 2 = 1) else decide (r % 2 = 1)

theorem size_pos : ∀ f : Fm, 1 ≤ f.size := by intro f; cases f <;> simp [size]
theorem dep_pos : ∀ f : Fm, 1 ≤ f.dep := by intro f; cases f <;> simp [dep]
theorem dep_le_size : ∀ f : Fm, f.dep ≤ f.size := by
  intro f
  induction f with
  | tt | ff | «at» => simp [dep, size]
  | no a ih => simp [dep, size]; omega
  | and a b iha ihb | or a b iha ihb | imp a b iha ihb | iff a b iha ihb =>
    have := size_pos a
    have := size_pos b
    simp only [dep, size]; omega
theorem idep_le_size : ∀ f : Fm, f.idep ≤ 4 * f.size := by
  intro f
  induction f with
  | tt | ff | «at» => simp [idep, size]
  | no a ih => simp [idep, size]; omega
  | and a b iha ihb | or a b iha ihb | imp a b iha ihb | iff a b iha ihb =>
    have := size_pos a
    have := size_pos b
    simp only [idep, size]; omega
theorem bits_lt : ∀ f : Fm, f.bits < 256 := by
  intro f
  induction f with
  | tt | ff => simp [bits]
  | «at» i => simp only [bits]; revert i; decide
  | no a ih => simp only [bits]; omega
  | and a b iha ihb => simp only [bits]; exact Nat.and_lt_two_pow (n := 8) _ ihb
  | or a b iha ihb => simp only [bits]; exact Nat.or_lt_two_pow (n := 8) iha ihb
  | imp a b iha ihb => simp only [bits]; exact Nat.or_lt_two_pow (n := 8) (by omega) ihb
  | iff a b iha ihb => simp only [bits]; omega
theorem not_bit {x r : Nat} (hx : x < 256) (hr : r < 8) : (255 - x).testBit r = !x.testBit r := by
  have h := Nat.testBit_two_pow_sub_succ (n := 8) (x := x) (by omega) r
  have e : 2 ^ 8 - (x + 1) = 255 - x := by omega
  rw [e] at h
  rw [h]; simp [hr]
theorem bits_ev : ∀ (f : Fm) (r : Nat), r < 8 → f.bits.testBit r = f.ev (rowV r) := by
  intro f
  induction f with
  | tt => intro r hr; simp only [bits, ev]; match r, hr with
    | 0, _ | 1, _ | 2, _ | 3, _ | 4, _ | 5, _ | 6, _ | 7, _ => decide
  | ff => intro r hr; simp [bits, ev]
  | «at» i => intro r hr; simp only [bits, ev, rowV]; match r, hr with
    | 0, _ | 1, _ | 2, _ | 3, _ | 4, _ | 5, _ | 6, _ | 7, _ => revert i; decide
  | no a ih => intro r hr; simp only [bits, ev]; rw [not_bit (bits_lt a) hr, ih r hr]
  | and a b iha ihb => intro r hr; simp only [bits, ev, Nat.testBit_and, iha r hr, ihb r hr]
  | or a b iha ihb => intro r hr; simp only [bits, ev, Nat.testBit_or, iha r hr, ihb r hr]
  | imp a b iha ihb => intro r hr; simp only [bits, ev, Nat.testBit_or, not_bit (bits_lt a) hr, iha r hr, ihb r hr]
  | iff a b iha ihb =>
    intro r hr
    simp only [bits, ev]
    rw [not_bit (Nat.xor_lt_two_pow (n := 8) (bits_lt a) (bits_lt b)) hr, Nat.testBit_xor, iha r hr, ihb r hr]
    cases ev (rowV r) a <;> cases ev (rowV r) b <;> rfl
/-- what the law reckons of a row -/
theorem due (f : Fm) (r : Nat) (hr : r < 8) : decide (f.bits / 2 ^ r % 2 = 1) = f.ev (rowV r) := by
  rw [← bits_ev f r hr, Nat.testBit_eq_decide_div_mod_eq]
end Fm
end Mine
end
section
open PySem PyProof.Rows
namespace Mine
theorem nat_xor_add (m : Nat) : ∀ n : Nat, (m ^^^ n) + 2 * (m &&& n) = m + n := by
  induction m using Nat.strongRecOn with
  | ind m ih =>
    intro n
    by_cases h0 : m = 0
    · subst h0; simp
    · have ih' := ih (m / 2) (by omega) (n / 2)
      rw [← Nat.xor_div_two, ← Nat.and_div_two] at ih'
      have o1 := @Nat.xor_mod_two_eq_one m n
      have a1 := @Nat.and_mod_two_eq_one m n
      omega
theorem bit_and (x y : Nat) : Builtin.bitAnd (x : Int) (y : Int) = ((x &&& y : Nat) : Int) := by
  rw [bitAnd_pp (Int.natCast_nonneg _) (Int.natCast_nonneg _)]; rfl
theorem bit_or (x y : Nat) : Builtin.bitOr (x : Int) (y : Int) = ((x ||| y : Nat) : Int) := by
  have h := nat_or_add_and x y
  rw [bitOr_and, bit_and]; omega
theorem bit_xor (x y : Nat) : Builtin.bitXor (x : Int) (y : Int) = ((x ^^^ y : Nat) : Int) := by
  have h := nat_or_add_and x y
  have h' := nat_xor_add x y
  unfold Builtin.bitXor
  rw [bit_or, bit_and]; omega
theorem join_and {b b2 : Int} {f g : Fm} (h2 : b2 = (g.bits : Int)) (h : b = (f.bits : Int)) : Builtin.bitAnd b2 b = ((Fm.and g f).bits : Int) := by
  subst h2; subst h; rw [bit_and]; rfl
theorem join_or {b b2 : Int} {f g : Fm} (h2 : b2 = (g.bits : Int)) (h : b = (f.bits : Int)) : Builtin.bitOr b2 b = ((Fm.or g f).bits : Int) := by
  subst h2; subst h; rw [bit_or]; rfl
theorem join_imp {b b2 : Int} {f g : Fm} (h2 : b2 = (g.bits : Int)) (h : b = (f.bits : Int)) : Builtin.bitOr (255 - b2) b = ((Fm.imp g f).bits : Int) := by
  subst h2; subst h
  have e : (255 - (g.bits : Int)) = ((255 - g.bits : Nat) : Int) := by have := Fm.bits_lt g; omega
  rw [e, bit_or]; rfl
theorem join_iff {b b2 : Int} {f g : Fm} (h2 : b2 = (g.bits : Int)) (h : b = (f.bits : Int)) : 255 - Builtin.bitXor b2 b = ((Fm.iff g f).bits : Int) := by
  subst h2; subst h
  have e : g.bits ^^^ f.bits < 256 := Nat.xor_lt_two_pow (n := 8) (Fm.bits_lt g) (Fm.bits_lt f)
  rw [bit_xor]; simp only [Fm.bits]; omega
theorem no_bits {b : Int} {f : Fm} (h : b = (f.bits : Int)) : 255 - b = ((Fm.no f).bits : Int) := by
  subst h
  have := Fm.bits_lt f
  simp only [Fm.bits]; omega
end Mine
end
section
open PySem PyProof.Rows
namespace Mine
def rowB (p q r : Bool) : Fin 3 → Bool := fun i => if i = 0 then p else if i = 1 then q else r
theorem fm_nat (x y : Nat) : Int.fmod (x : Int) (y : Int) = ((x % y : Nat) : Int) := by
  rw [Int.fmod_eq_emod_of_nonneg _ (Int.natCast_nonneg _)]; rfl
theorem fd_nat (x y : Nat) : Int.fdiv (x : Int) (y : Int) = ((x / y : Nat) : Int) := by
  rw [Int.fdiv_eq_ediv_of_nonneg _ (Int.natCast_nonneg _)]; rfl
theorem dec_one (x : Nat) : decide ((x : Int) = 1) = decide (x = 1) := by
  by_cases h : x = 1
  · subst h; rfl
  · have : ¬ (x : Int) = 1 := by omega
    rw [decide_eq_false h, decide_eq_false this]
theorem rowB_row (k : Nat) : rowB (decide (Int.fmod (Int.fdiv (k : Int) 4) 2 = 1)) (decide (Int.fmod (Int.fdiv (k : Int) 2) 2 = 1)) (decide (Int.fmod (k : Int) 2 = 1)) = Fm.rowV k := by
  have e4 : Int.fmod (Int.fdiv (k : Int) 4) 2 = ((k / 4 % 2 : Nat) : Int) := by rw [show (4 : Int) = ((4 : Nat) : Int) from rfl, fd_nat, show (2 : Int) = ((2 : Nat) : Int) from rfl, fm_nat]
  have e2 : Int.fmod (Int.fdiv (k : Int) 2) 2 = ((k / 2 % 2 : Nat) : Int) := by rw [show (2 : Int) = ((2 : Nat) : Int) from rfl, fd_nat, fm_nat]
  have e1 : Int.fmod (k : Int) 2 = ((k % 2 : Nat) : Int) := by rw [show (2 : Int) = ((2 : Nat) : Int) from rfl, fm_nat]
  rw [e4, e2, e1, dec_one, dec_one, dec_one]
  rfl
theorem due_ok {r b : Int} {f : Fm} (h0 : 0 ≤ r) (h8 : r < 8) (hb : b = (f.bits : Int)) :
    decide (Int.fmod (Int.fdiv b (2 ^ r.toNat)) 2 = 1) = f.ev (rowB (decide (Int.fmod (Int.fdiv r 4) 2 = 1)) (decide (Int.fmod (Int.fdiv r 2) 2 = 1)) (decide (Int.fmod r 2 = 1))) := by
  obtain ⟨k, rfl⟩ := Int.eq_ofNat_of_zero_le h0
  subst hb
  rw [rowB_row, ← Fm.due f k (by omega), Int.toNat_natCast]
  have ep : (2 : Int) ^ k = ((2 ^ k : Nat) : Int) := by rw [Int.natCast_pow]; rfl
  rw [ep, fd_nat, show (2 : Int) = ((2 : Nat) : Int) from rfl, fm_nat, dec_one]
end Mine
end
section
open PySem PySem.W PyProof.Rows
namespace Mine
open_top hd02 for PySem.Challenge.rw_ui0505_02
end Mine
end
section
open PySem PySem.W PyProof.Rows PyProof.V PySem.Spec
namespace Mine
abbrev tup (vs : List Value) (n : Nat) : Obj := { cls := .type "tuple", data := .seq vs.toArray n }
def lett (i : Fin 3) : Str := if i = 0 then Str.ofString "p" else if i = 1 then Str.ofString "q" else Str.ofString "r"
/-- the ledger bears the formula at the value -/
inductive FIn (news : List (Addr × Obj)) : Value → Fm → Prop
  | ttG : FIn news (.ref 15) .tt
  | ffG : FIn news (.ref 16) .ff
  | tt {a : Addr} {t : Tok} {n : Nat} : (a, tup [.str (Str.ofString "true") t] n) ∈ news → FIn news (.ref a) .tt
  | ff {a : Addr} {t : Tok} {n : Nat} : (a, tup [.str (Str.ofString "false") t] n) ∈ news → FIn news (.ref a) .ff
  | at {a b : Addr} {t u : Tok} {n k : Nat} {i : Fin 3} : (a, tup [.str (Str.ofString "atom") t, .str (lett i) u, .ref b] n) ∈ news → (b, tup [] k) ∈ news → FIn news (.ref a) (.at i)
  | no {a : Addr} {t : Tok} {n : Nat} {v : Value} {f : Fm} : (a, tup [.str (Str.ofString "not") t, v] n) ∈ news → FIn news v f → FIn news (.ref a) (.no f)
  | and {a : Addr} {t : Tok} {n : Nat} {v v' : Value} {f g : Fm} : (a, tup [.str (Str.ofString "and") t, v, v'] n) ∈ news → FIn news v f → FIn news v' g → FIn news (.ref a) (.and f g)
  | or {a : Addr} {t : Tok} {n : Nat} {v v' : Value} {f g : Fm} : (a, tup [.str (Str.ofString "or") t, v, v'] n) ∈ news → FIn news v f → FIn news v' g → FIn news (.ref a) (.or f g)
  | imp {a : Addr} {t : Tok} {n : Nat} {v v' : Value} {f g : Fm} : (a, tup [.str (Str.ofString "implies") t, v, v'] n) ∈ news → FIn news v f → FIn news v' g → FIn news (.ref a) (.imp f g)
  | iff {a : Addr} {t : Tok} {n : Nat} {v v' : Value} {f g : Fm} : (a, tup [.str (Str.ofString "iff") t, v, v'] n) ∈ news → FIn news v f → FIn news v' g → FIn news (.ref a) (.iff f g)
theorem FIn.mono {news news' : List (Addr × Obj)} {v : Value} {f : Fm} (h : FIn news v f) (hs : ∀ p ∈ news, p ∈ news') : FIn news' v f := by
  induction h with
  | ttG => exact .ttG
  | ffG => exact .ffG
  | tt h => exact .tt (hs _ h)
  | ff h => exact .ff (hs _ h)
  | «at» h h' => exact .at (hs _ h) (hs _ h')
  | no h _ ih => exact .no (hs _ h) ih
  | and h _ _ ih ih' => exact .and (hs _ h) ih ih'
  | or h _ _ ih ih' => exact .or (hs _ h) ih ih'
  | imp h _ _ ih ih' => exact .imp (hs _ h) ih ih'
  | iff h _ _ ih ih' => exact .iff (hs _ h) ih ih'
/-- the row of the letters -/
structure RowIn (prog : Program) (w : World) (news : List (Addr × Obj)) (D : Addr) (r : Fin 3 → Bool) (o : Obj) (kvs : List (Str × Value)) : Prop where
  mem : (D, o) ∈ news
  lo : (D == sysModules) = false
  dict : o.IsDictOf (PySem.strKind prog w) kvs
  flat : FlatPairs PyData.str kvs [(.str (Str.ofString "p"), .bool (r 0)), (.str (Str.ofString "q"), .bool (r 1)), (.str (Str.ofString "r"), .bool (r 2))]
inductive ValRel (prog : Program) (w : World) (news : List (Addr × Obj)) : List Value → (Fm × (Fin 3 → Bool)) → Prop
  | mk {v : Value} {D : Addr} {f : Fm} {r : Fin 3 → Bool} {o : Obj} {kvs : List (Str × Value)} : FIn news v f → RowIn prog w news D r o kvs → ValRel prog w news [v, .ref D] (f, r)
abbrev valueT (prog : Program) (w : World) : ToldN (Fm × (Fin 3 → Bool)) where
  Rel := ValRel prog w
  Ok := fun _ => True
  size := fun d => d.1.dep
  Tl := fun tl => tl = []
  Out := fun _ r d => ∃ (_ : Unit), r = .bool (d.1.ev d.2)
theorem fin3 (i : Fin 3) : i = 0 ∨ i = 1 ∨ i = 2 := by revert i; decide
theorem value_ok (w : World) (p : Program) (loose : List Str) (mean : ExcName → Option Value) (mg mb : Str → Option Value) :
    ∀ d, TellsN PySem.Challenge.rw_ui0505_02.row.prog w (hd02.heap_39 w.params) p loose mean mg mb 24 (valueT PySem.Challenge.rw_ui0505_02.row.prog w) d := by
  k_fill
  k_with_none
  k_with "tree" => simp only [valueT, Fm.dep] at *
  k_with "call ref" => ktn_call (Str.ofString "value") (valueT _ _)
  refine tellsN_of fun d IH => ?_
  unfold TellsN
  intro dp un gd cn cs a ccd cl outer A₀ base h₀ L m news s vs Q E B F X N T hk hR hok hd hu hret
  obtain ⟨hF, hRow⟩ := hR
  have hRow' := hRow
  obtain ⟨hRm, hRl, hRd, hRf⟩ := hRow'
  cases hF
  case «at» b a t u n k i hm1 hm2 =>
    rcases fin3 i with rfl | rfl | rfl
    all_goals (
      simp only [lett] at hm1
      refine wpAny_call ?_
      k_dflt ktr_enter
      k_steps
      exact hret _ [] _ _ (by k_asm) (ktn_tl0 (by k_asm)) ktn_ord0 rfl ⟨(), rfl⟩)
  all_goals (
    refine wpAny_call ?_
    k_dflt ktr_enter
    k_steps)
  all_goals first
    | exact hret _ [] _ _ (by k_asm) (ktn_tl0 (by k_asm)) ktn_ord0 rfl ⟨(), rfl⟩
    | (refine hret _ [] _ _ (by k_asm) (ktn_tl0 (by k_asm)) ktn_ord0 rfl ⟨(), ?_⟩; simp_all [Fm.ev]; done)
    | skip
end Mine
end
section
open PySem PySem.W PyProof.Rows PyProof.V PySem.Spec
namespace Mine
local macro_rules | `(tactic| k_mem) => `(tactic| first | exact List.mem_cons_self | (refine List.mem_cons_of_mem _ ?_; k_mem))
theorem pre_news {h₀ h : Heap} {L : Addr} {pre news tl : List (Addr × Obj)} (N : News h₀ L h (pre ++ (news ++ tl))) : News h₀ L h (news ++ (pre ++ tl)) := fun p hp => N p (by
  simp only [List.mem_append] at hp ⊢
  rcases hp with h | h | h
  · exact .inr (.inl h)
  · exact .inl h
  · exact .inr (.inr h))
theorem pre_sub {pre news tl : List (Addr × Obj)} : ∀ p ∈ pre ++ (news ++ tl), p ∈ news ++ (pre ++ tl) := by
  intro p hp
  simp only [List.mem_append] at hp ⊢
  rcases hp with h | h | h
  · exact .inr (.inl h)
  · exact .inl h
  · exact .inr (.inr h)
theorem pre_ord {pre news tl : List (Addr × Obj)} (h : ∀ p ∈ pre, AllLt p.1 news) (k : ∀ q ∈ pre ++ news, ∀ p ∈ tl, q.1 < p.1) : ∀ q ∈ news, ∀ p ∈ pre ++ tl, q.1 < p.1 := by
  intro q hq p hp
  rcases List.mem_append.mp hp with hp | hp
  · exact ktn_ltOf (h p hp) q hq
  · exact k q (List.mem_append.mpr (.inr hq)) p hp
local macro_rules | `(tactic| ktn_lt) => `(tactic| first
  | with_reducible assumption
  | exact allLt_of (by with_reducible assumption)
  | exact (show _ ∧ AllLt _ _ by with_reducible assumption).2
  | exact (show _ ∧ _ ∧ AllLt _ _ by with_reducible assumption).2.2
  | exact (show _ ∧ _ ∧ _ ∧ AllLt _ _ by with_reducible assumption).2.2.2
  | exact (show _ ∧ _ ∧ _ ∧ _ ∧ AllLt _ _ by with_reducible assumption).2.2.2.2)
local macro_rules | `(tactic| ktr_enter) => `(tactic| (refine' code_def ?k1 ?k2 ?k3 ?k4 ?k5 ?kA ?kF ?kK ?k6 ?k7 ?k8 ?k9 ?kB ?_ ?c2 ?c3 ?c4 ?c5; (case kA => exact rfl); (case kF => exact rfl); (case kK => assumption); (case k1 => k_asm); (case k2 => k_asm); (case k3 => k_asm); (case k4 => k_asm); (case k5 => k_asm); (case k6 => k_is); (case k7 => k_is); (case k8 => ktr_room); (case k9 => first | exact BindsTo.of_eq rfl | exact binds_K (by k_in) rfl (by k_is) rfl rfl rfl); (case c5 => decide); (case kB => exact locs rfl); (case c2 => exact rfl); (case c3 => exact rfl); (case c4 => exact rfl); k_whole; intro g' L' h' FG' F' N' B' X' T'; (try dsimp only); (try k_fold)))
theorem iff_no : ∀ a b t : Bool, (((!a || b) && (a || !b)) != t) = ((a == b) != t) := by decide
inductive InwRel (news : List (Addr × Obj)) : List Value → (Fm × Bool) → Prop
  | one {v : Value} {f : Fm} : FIn news v f → InwRel news [v] (f, false)
  | two {v : Value} {f : Fm} {b : Bool} : FIn news v f → InwRel news [v, .bool b] (f, b)
/-- what inward hands back -/
def InwOut (news : List (Addr × Obj)) (r : Value) (d : Fm × Bool) : Prop := ∃ g : Fm, FIn news r g ∧ (∀ v, g.ev v = (d.1.ev v != d.2)) ∧ g.dep ≤ d.1.idep + 1
abbrev inwT : ToldN (Fm × Bool) where
  Rel := InwRel
  Ok := fun _ => True
  size := fun d => d.1.idep
  Tl := ktnAny
  Out := InwOut
theorem inward_ok (w : World) (p : Program) (loose : List Str) (mean : ExcName → Option Value) (mg mb : Str → Option Value) :
    ∀ d, TellsN PySem.Challenge.rw_ui0505_02.row.prog w (hd02.heap_39 w.params) p loose mean mg mb 32 inwT d := by
  k_fill
  k_with_none
  k_with "tree" => simp only [inwT, Fm.idep] at *
  k_with "call ref" => ktn_call (Str.ofString "inward") inwT
  refine tellsN_of fun d IH => ?_
  unfold TellsN
  intro dp un gd cn cs a ccd cl outer A₀ base h₀ L m news s vs Q E B F X N T hk hR hok hd hu hret
  obtain ⟨v, f, b, hF, hvs, hdd⟩ : ∃ v f b, FIn news v f ∧ (vs = [v, .bool b] ∨ (vs = [v] ∧ b = false)) ∧ d = (f, b) := by
    cases hR with
    | one h => exact ⟨_, _, false, h, .inr ⟨rfl, rfl⟩, rfl⟩
    | two h => exact ⟨_, _, _, h, .inl rfl, rfl⟩
  subst hdd
  have main : ∀ vs', (vs' = [v, .bool b] ∨ (vs' = [v] ∧ b = false)) → wpAny (model PySem.Challenge.rw_ui0505_02.row.prog w) (ktrTop dp un gd cn cs L a ccd cl outer) (call (.ref 32) vs') Q E s := by
    intro vs' hvs'
    clear hvs
    cases hF
    case ttG | tt =>
      rcases hvs' with rfl | ⟨rfl, rfl⟩
      case' inl => cases b
      all_goals (
        refine wpAny_call ?_
        k_dflt ktr_enter
        k_steps
        first
          | exact hret _ [] _ _ (by k_asm) (ktn_tl0 (by k_asm)) ktn_ord0 trivial ⟨.tt, .ttG, fun _ => rfl, by decide⟩
          | exact hret _ [] _ _ (by k_asm) (ktn_tl0 (by k_asm)) ktn_ord0 trivial ⟨.ff, .ffG, fun _ => rfl, by decide⟩)
    case ffG | ff =>
      rcases hvs' with rfl | ⟨rfl, rfl⟩
      case' inl => cases b
      all_goals (
        refine wpAny_call ?_
        k_dflt ktr_enter
        k_steps
        first
          | exact hret _ [] _ _ (by k_asm) (ktn_tl0 (by k_asm)) ktn_ord0 trivial ⟨.tt, .ttG, fun _ => rfl, by decide⟩
          | exact hret _ [] _ _ (by k_asm) (ktn_tl0 (by k_asm)) ktn_ord0 trivial ⟨.ff, .ffG, fun _ => rfl, by decide⟩)
    case «at» =>
      rcases hvs' with rfl | ⟨rfl, rfl⟩
      case' inl => cases b
      all_goals (
        refine wpAny_call ?_
        k_dflt ktr_enter
        k_steps
        first
          | exact hret _ [] _ _ (by k_asm) (ktn_tl0 (by k_asm)) ktn_ord0 trivial ⟨.at _, by rw [List.append_nil]; exact .at (by assumption) (by assumption), fun v => by simp [Fm.ev], by simp [Fm.dep, Fm.idep]⟩
          | exact hret _ [_] _ _ (by k_asm) (ktn_tl1 (by k_asm)) (ktn_ord1 (by ktn_lt)) trivial ⟨.no (.at _), .no ktn_new (.at (ktn_subA _ (by assumption)) (ktn_subA _ (by assumption))), fun v => by simp [Fm.ev], by simp [Fm.dep, Fm.idep]⟩)
    case no =>
      rcases hvs' with rfl | ⟨rfl, rfl⟩
      case' inl => cases b
      all_goals (
        refine wpAny_call ?_
        k_dflt ktr_enter
        k_steps
        rename InwOut _ _ _ => hoA
        obtain ⟨gA, hA, eA, dA⟩ := hoA
        exact hret _ _ _ _ (by k_asm) (by k_asm) (by ktn_ord) trivial ⟨gA, hA, fun v => by simp [Fm.ev, eA], by simp only [Fm.dep, Fm.idep] at dA ⊢; omega⟩)
    case and | or =>
      rcases hvs' with rfl | ⟨rfl, rfl⟩
      case' inl => cases b
      all_goals (
        refine wpAny_call ?_
        k_dflt ktr_enter
        k_steps
        rename InwOut _ _ _ => hoB
        obtain ⟨gB, hB, eB, dB⟩ := hoB
        rename InwOut _ _ _ => hoA
        obtain ⟨gA, hA, eA, dA⟩ := hoA
        first
          | exact hret _ (_ :: (_ ++ _)) _ _ (by k_asm) (ktn_tl2 (by k_asm)) (by ktn_ord) trivial ⟨.and gA gB, .and ktn_new (hA.mono ktn_subD) (hB.mono ktn_subB), fun v => by simp [Fm.ev, eA, eB], by simp only [Fm.dep, Fm.idep] at dA dB ⊢; omega⟩
          | exact hret _ (_ :: (_ ++ _)) _ _ (by k_asm) (ktn_tl2 (by k_asm)) (by ktn_ord) trivial ⟨.or gA gB, .or ktn_new (hA.mono ktn_subD) (hB.mono ktn_subB), fun v => by simp [Fm.ev, eA, eB], by simp only [Fm.dep, Fm.idep] at dA dB ⊢; omega⟩)
    case imp =>
      rcases hvs' with rfl | ⟨rfl, rfl⟩
      case' inl => cases b
      all_goals (
        refine wpAny_call ?_
        k_dflt ktr_enter
        k_steps
        rename InwOut _ _ _ => hoA
        obtain ⟨gA, hA, eA, dA⟩ := hoA
        rename ∀ q ∈ _, ∀ p ∈ _, _ => hl
        exact hret _ ([_, _] ++ _) _ _ (by k_asm) (pre_news (pre := [_, _]) (by k_asm)) (pre_ord (List.forall_mem_cons.mpr ⟨by ktn_lt, List.forall_mem_cons.mpr ⟨by ktn_lt, List.forall_mem_nil _⟩⟩) hl) trivial ⟨gA, hA.mono (pre_sub (pre := [_, _])), fun v => by simp [Fm.ev, eA], by simp only [Fm.dep, Fm.idep] at dA ⊢; omega⟩)
    case iff =>
      rcases hvs' with rfl | ⟨rfl, rfl⟩
      case' inl => cases b
      all_goals (
        refine wpAny_call ?_
        k_dflt ktr_enter
        k_steps
        rename InwOut _ _ _ => hoA
        obtain ⟨gA, hA, eA, dA⟩ := hoA
        rename ∀ q ∈ _, ∀ p ∈ _, _ => hl
        exact hret _ ([_, _, _, _, _] ++ _) _ _ (by k_asm) (pre_news (pre := [_, _, _, _, _]) (by k_asm)) (pre_ord (List.forall_mem_cons.mpr ⟨by ktn_lt, List.forall_mem_cons.mpr ⟨by ktn_lt, List.forall_mem_cons.mpr ⟨by ktn_lt, List.forall_mem_cons.mpr ⟨by ktn_lt, List.forall_mem_cons.mpr ⟨by ktn_lt, List.forall_mem_nil _⟩⟩⟩⟩⟩) hl) trivial ⟨gA, hA.mono (pre_sub (pre := [_, _, _, _, _])), fun v => (eA v).trans (by simp only [Fm.ev]; exact iff_no _ _ _), by simp only [Fm.dep, Fm.idep] at dA ⊢; omega⟩)
  exact main vs hvs
end Mine
end
section
open PySem PySem.W PyProof.Rows PyProof.V PySem.Spec
namespace Mine
def Fm.py : Fm → PyData
  | .tt => .tuple [.str (Str.ofString "true")]
  | .ff => .tuple [.str (Str.ofString "false")]
  | .at i => .tuple [.str (Str.ofString "atom"), .str (lett i), .tuple []]
  | .no a => .tuple [.str (Str.ofString "not"), a.py]
  | .and a b => .tuple [.str (Str.ofString "and"), a.py, b.py]
  | .or a b => .tuple [.str (Str.ofString "or"), a.py, b.py]
  | .imp a b => .tuple [.str (Str.ofString "implies"), a.py, b.py]
  | .iff a b => .tuple [.str (Str.ofString "iff"), a.py, b.py]
theorem lett_inj : ∀ i j : Fin 3, (lett i == lett j) = decide (i = j) := by decide +kernel
theorem lett_ok : ∀ i : Fin 3, PyData.strOk (lett i) = true := by decide +kernel
theorem Fm.py_lay : ∀ f : Fm, f.py.canLay0 = true ∧ f.py.depth ≤ f.size + 1 := by
  intro f
  induction f with
  | tt => exact ⟨by decide +kernel, by decide +kernel⟩
  | ff => exact ⟨by decide +kernel, by decide +kernel⟩
  | «at» i => revert i; decide +kernel
  | no a ih =>
    obtain ⟨h1, h2⟩ := ih
    have e : PyData.strOk (Str.ofString "not") = true := by decide +kernel
    simp only [Fm.py, Fm.size, PyData.canLay0, PyData.canLayAll0, PyData.depth, PyData.depthAll, h1, e, Bool.and_true, true_and]
    omega
  | and a b iha ihb =>
    have e : PyData.strOk (Str.ofString "and") = true := by decide +kernel
    simp only [Fm.py, Fm.size, PyData.canLay0, PyData.canLayAll0, PyData.depth, PyData.depthAll, iha.1, ihb.1, e, Bool.and_true, true_and]
    have := iha.2
    have := ihb.2
    omega
  | or a b iha ihb =>
    have e : PyData.strOk (Str.ofString "or") = true := by decide +kernel
    simp only [Fm.py, Fm.size, PyData.canLay0, PyData.canLayAll0, PyData.depth, PyData.depthAll, iha.1, ihb.1, e, Bool.and_true, true_and]
    have := iha.2
    have := ihb.2
    omega
  | imp a b iha ihb =>
    have e : PyData.strOk (Str.ofString "implies") = true := by decide +kernel
    simp only [Fm.py, Fm.size, PyData.canLay0, PyData.canLayAll0, PyData.depth, PyData.depthAll, iha.1, ihb.1, e, Bool.and_true, true_and]
    have := iha.2
    have := ihb.2
    omega
  | iff a b iha ihb =>
    have e : PyData.strOk (Str.ofString "iff") = true := by decide +kernel
    simp only [Fm.py, Fm.size, PyData.canLay0, PyData.canLayAll0, PyData.depth, PyData.depthAll, iha.1, ihb.1, e, Bool.and_true, true_and]
    have := iha.2
    have := ihb.2
    omega
theorem kw1 : ((Str.ofString "true" == Str.ofString "true") = true) := by decide +kernel
/-- the tag of a formula -/
def Fm.tag : Fm → Nat
  | .tt => 0 | .ff => 1 | .at _ => 2 | .no _ => 3 | .and _ _ => 4 | .or _ _ => 5 | .imp _ _ => 6 | .iff _ _ => 7
def tagS : Nat → Str
  | 0 => Str.ofString "true" | 1 => Str.ofString "false" | 2 => Str.ofString "atom" | 3 => Str.ofString "not" | 4 => Str.ofString "and" | 5 => Str.ofString "or" | 6 => Str.ofString "implies" | _ => Str.ofString "iff"
def Fm.rest : Fm → List PyData
  | .tt => [] | .ff => [] | .at i => [.str (lett i), .tuple []] | .no a => [a.py] | .and a b => [a.py, b.py] | .or a b => [a.py, b.py] | .imp a b => [a.py, b.py] | .iff a b => [a.py, b.py]
theorem Fm.py_eq (f : Fm) : f.py = .tuple (.str (tagS f.tag) :: f.rest) := by cases f <;> rfl
theorem tagS_inj : ∀ i j : Fin 8, (tagS i == tagS j) = decide (i = j) := by decide +kernel
theorem Fm.tag_lt (f : Fm) : f.tag < 8 := by cases f <;> simp [Fm.tag]
theorem Fm.eqv_tag (f g : Fm) : PyData.eqv f.py g.py = (decide (f.tag = g.tag) && PyData.eqvAll f.rest g.rest) := by
  rw [f.py_eq, g.py_eq]
  have h := tagS_inj ⟨f.tag, f.tag_lt⟩ ⟨g.tag, g.tag_lt⟩
  simp only [PyData.eqv, PyData.eqvAll]
  rw [show (tagS f.tag == tagS g.tag) = decide (f.tag = g.tag) from by simpa using h]
theorem Fm.eqv : ∀ f g : Fm, PyData.eqv f.py g.py = decide (f = g) := by
  intro f
  induction f with
  | tt => intro g; rw [Fm.eqv_tag]; cases g <;> simp [Fm.tag, Fm.rest, PyData.eqvAll]
  | ff => intro g; rw [Fm.eqv_tag]; cases g <;> simp [Fm.tag, Fm.rest, PyData.eqvAll]
  | «at» i => intro g; rw [Fm.eqv_tag]; cases g <;> first | (simp [Fm.tag]; done) | (simp only [Fm.tag, Fm.rest, PyData.eqvAll, PyData.eqv, lett_inj]; simp)
  | no a ih => intro g; rw [Fm.eqv_tag]; cases g <;> first | (simp [Fm.tag]; done) | (simp only [Fm.tag, Fm.rest, PyData.eqvAll, ih]; simp)
  | and a b iha ihb => intro g; rw [Fm.eqv_tag]; cases g <;> first | (simp [Fm.tag]; done) | (simp only [Fm.tag, Fm.rest, PyData.eqvAll, iha, ihb]; simp)
  | or a b iha ihb => intro g; rw [Fm.eqv_tag]; cases g <;> first | (simp [Fm.tag]; done) | (simp only [Fm.tag, Fm.rest, PyData.eqvAll, iha, ihb]; simp)
  | imp a b iha ihb => intro g; rw [Fm.eqv_tag]; cases g <;> first | (simp [Fm.tag]; done) | (simp only [Fm.tag, Fm.rest, PyData.eqvAll, iha, ihb]; simp)
  | iff a b iha ihb => intro g; rw [Fm.eqv_tag]; cases g <;> first | (simp [Fm.tag]; done) | (simp only [Fm.tag, Fm.rest, PyData.eqvAll, iha, ihb]; simp)
section
variable {w : World} {h₀ h : Heap} {L : Addr} {m : Str → Option Value} {news : List (Addr × Obj)}
theorem reads_F (F : Fr h₀ L h m) (X : (hd02.heap_39 w.params).In h₀) (N : News h₀ L h news) {v : Value} {f : Fm} (hF : FIn news v f) : ∃ as, Reads h v f.py as := by
  induction hF with
  | ttG => exact ⟨_, reads_tuple_at (F.keep _ _ (X 15 _ rfl)) rfl rfl (.cons (.str _ _) .nil)⟩
  | ffG => exact ⟨_, reads_tuple_at (F.keep _ _ (X 16 _ rfl)) rfl rfl (.cons (.str _ _) .nil)⟩
  | tt hm => exact ⟨_, reads_tuple_at (N.get hm) rfl rfl (.cons (.str _ _) .nil)⟩
  | ff hm => exact ⟨_, reads_tuple_at (N.get hm) rfl rfl (.cons (.str _ _) .nil)⟩
  | «at» hm hb => exact ⟨_, reads_tuple_at (N.get hm) rfl rfl (.cons (.str _ _) (.cons (.str _ _) (.cons (reads_tuple_at (N.get hb) rfl rfl .nil) .nil)))⟩
  | no hm _ ih => obtain ⟨as, r⟩ := ih; exact ⟨_, reads_tuple_at (N.get hm) rfl rfl (.cons (.str _ _) (.cons r .nil))⟩
  | and hm _ _ ih ih' | or hm _ _ ih ih' | imp hm _ _ ih ih' | iff hm _ _ ih ih' => obtain ⟨as, r⟩ := ih; obtain ⟨bs, r'⟩ := ih'; exact ⟨_, reads_tuple_at (N.get hm) rfl rfl (.cons (.str _ _) (.cons r (.cons r' .nil)))⟩
theorem shaped_F {f : Fm} (hf : f.size ≤ 60) : SeqAt.shaped f.py = true := by
  have h := f.py_lay
  unfold SeqAt.shaped
  rw [h.1, Bool.true_and]
  exact decide_eq_true (by omega)
/-- two formulas compared -/
theorem eq_F {prog : Program} {A : Around} {E : Value → Shared → Prop} {s : Shared} {a b : Value} {f g : Fm} {Q : Value → Shared → Prop}
    (F : Fr h₀ L s.heap m) (X : (hd02.heap_39 w.params).In h₀) (N : News h₀ L s.heap news) (ha : FIn news a f) (hb : FIn news b g) (hf : f.size ≤ 60) (hg : g.size ≤ 60) (hu : A.units + 64 < cLine)
    (h : Q (.bool (decide (f = g))) s) : wpAny (model prog w) A (compareOp .Eq a b) Q E s := by
  obtain ⟨as, ra⟩ := reads_F F X N ha
  obtain ⟨bs, rb⟩ := reads_F F X N hb
  exact eq_dataH ra rb (shaped_F hf) (shaped_F hg) hu (by rw [Fm.eqv]; exact h)
end
end Mine
end
section
open PySem PySem.W PyProof.Rows PyProof.V PySem.Spec
namespace Mine
local macro_rules | `(tactic| k_mem) => `(tactic| first | exact List.mem_cons_self | (refine List.mem_cons_of_mem _ ?_; k_mem))
inductive PRel (news : List (Addr × Obj)) : List Value → (Fm × Fm) → Prop
  | mk {v v' : Value} {f g : Fm} : FIn news v f → FIn news v' g → PRel news [v, v'] (f, g)
def AOut (news : List (Addr × Obj)) (r : Value) (d : Fm × Fm) : Prop := ∃ g : Fm, FIn news r g ∧ (∀ v, g.ev v = (d.1.ev v && d.2.ev v)) ∧ g.size ≤ d.1.size + d.2.size + 1
def OOut (news : List (Addr × Obj)) (r : Value) (d : Fm × Fm) : Prop := ∃ g : Fm, FIn news r g ∧ (∀ v, g.ev v = (d.1.ev v || d.2.ev v)) ∧ g.size ≤ d.1.size + d.2.size + 1
abbrev andT : ToldN (Fm × Fm) where
  Rel := PRel
  Ok := fun d => d.1.size + d.2.size ≤ 60
  size := fun _ => 12
  Tl := ktnAny
  Out := AOut
abbrev orT : ToldN (Fm × Fm) where
  Rel := PRel
  Ok := fun d => d.1.size + d.2.size ≤ 60
  size := fun _ => 12
  Tl := ktnAny
  Out := OOut
theorem and_ok (w : World) (p : Program) (loose : List Str) (mean : ExcName → Option Value) (mg mb : Str → Option Value) :
    ∀ d, TellsN PySem.Challenge.rw_ui0505_02.row.prog w (hd02.heap_39 w.params) p loose mean mg mb 46 andT d := by
  k_fill
  k_with_none
  k_with "compareOp Eq" => (refine' eq_F ?F ?X ?N ?a ?b ?f ?g ?u ?_; (case F => k_asm); (case X => k_asm); (case N => k_asm); (case a => ktr_rel); (case b => ktr_rel); (case f => first | omega | (simp only [Fm.size]; omega)); (case g => first | omega | (simp only [Fm.size]; omega)); (case u => ktr_units))
  intro d
  unfold TellsN
  intro dp un gd cn cs a ccd cl outer A₀ base h₀ L m news s vs Q E B F X N T hk hR hok hd hu hret
  cases hR with
  | @mk v v' f g hf hg =>
  simp only at hok hd hu
  refine wpAny_call ?_
  k_dflt ktr_enter
  k_steps
  all_goals first
    | exact hret _ [] _ _ (by k_asm) (ktn_tl0 (by k_asm)) ktn_ord0 trivial ⟨.ff, .ffG, (fun x => by rw [show f = Fm.ff by assumption]; simp [Fm.ev]), by simp [Fm.size]⟩
    | exact hret _ [] _ _ (by k_asm) (ktn_tl0 (by k_asm)) ktn_ord0 trivial ⟨.ff, .ffG, (fun x => by rw [show g = Fm.ff by assumption]; simp [Fm.ev]), by simp [Fm.size]⟩
    | exact hret _ [] _ _ (by k_asm) (ktn_tl0 (by k_asm)) ktn_ord0 trivial ⟨g, hg.mono ktn_subA, (fun x => by rw [show f = Fm.tt by assumption]; simp [Fm.ev]), by show g.size ≤ f.size + g.size + 1; omega⟩
    | exact hret _ [] _ _ (by k_asm) (ktn_tl0 (by k_asm)) ktn_ord0 trivial ⟨g, hg.mono ktn_subA, (fun x => by rw [show f = g by assumption]; simp), by show g.size ≤ f.size + g.size + 1; omega⟩
    | exact hret _ [] _ _ (by k_asm) (ktn_tl0 (by k_asm)) ktn_ord0 trivial ⟨f, hf.mono ktn_subA, (fun x => by rw [show g = Fm.tt by assumption]; simp [Fm.ev]), by show f.size ≤ f.size + g.size + 1; omega⟩
    | exact hret _ [_] _ _ (by k_asm) (ktn_tl1 (by k_asm)) (ktn_ord1 (by ktn_lt)) trivial ⟨.and f g, .and ktn_new (hf.mono ktn_subA) (hg.mono ktn_subA), fun _ => rfl, Nat.le_refl _⟩
theorem or_ok (w : World) (p : Program) (loose : List Str) (mean : ExcName → Option Value) (mg mb : Str → Option Value) :
    ∀ d, TellsN PySem.Challenge.rw_ui0505_02.row.prog w (hd02.heap_39 w.params) p loose mean mg mb 53 orT d := by
  k_fill
  k_with_none
  k_with "compareOp Eq" => (refine' eq_F ?F ?X ?N ?a ?b ?f ?g ?u ?_; (case F => k_asm); (case X => k_asm); (case N => k_asm); (case a => ktr_rel); (case b => ktr_rel); (case f => first | omega | (simp only [Fm.size]; omega)); (case g => first | omega | (simp only [Fm.size]; omega)); (case u => ktr_units))
  intro d
  unfold TellsN
  intro dp un gd cn cs a ccd cl outer A₀ base h₀ L m news s vs Q E B F X N T hk hR hok hd hu hret
  cases hR with
  | @mk v v' f g hf hg =>
  simp only at hok hd hu
  refine wpAny_call ?_
  k_dflt ktr_enter
  k_steps
  all_goals first
    | exact hret _ [] _ _ (by k_asm) (ktn_tl0 (by k_asm)) ktn_ord0 trivial ⟨.tt, .ttG, (fun x => by rw [show f = Fm.tt by assumption]; simp [Fm.ev]), by simp [Fm.size]⟩
    | exact hret _ [] _ _ (by k_asm) (ktn_tl0 (by k_asm)) ktn_ord0 trivial ⟨.tt, .ttG, (fun x => by rw [show g = Fm.tt by assumption]; simp [Fm.ev]), by simp [Fm.size]⟩
    | exact hret _ [] _ _ (by k_asm) (ktn_tl0 (by k_asm)) ktn_ord0 trivial ⟨g, hg.mono ktn_subA, (fun x => by rw [show f = Fm.ff by assumption]; simp [Fm.ev]), by show g.size ≤ f.size + g.size + 1; omega⟩
    | exact hret _ [] _ _ (by k_asm) (ktn_tl0 (by k_asm)) ktn_ord0 trivial ⟨g, hg.mono ktn_subA, (fun x => by rw [show f = g by assumption]; simp), by show g.size ≤ f.size + g.size + 1; omega⟩
    | exact hret _ [] _ _ (by k_asm) (ktn_tl0 (by k_asm)) ktn_ord0 trivial ⟨f, hf.mono ktn_subA, (fun x => by rw [show g = Fm.ff by assumption]; simp [Fm.ev]), by show f.size ≤ f.size + g.size + 1; omega⟩
    | exact hret _ [_] _ _ (by k_asm) (ktn_tl1 (by k_asm)) (ktn_ord1 (by ktn_lt)) trivial ⟨.or f g, .or ktn_new (hf.mono ktn_subA) (hg.mono ktn_subA), fun _ => rfl, Nat.le_refl _⟩
end Mine
end
section
open PySem PySem.W PyProof.Rows PyProof.V PySem.Spec
namespace Mine
local macro_rules | `(tactic| k_mem) => `(tactic| first | exact List.mem_cons_self | (refine List.mem_cons_of_mem _ ?_; k_mem))
section
variable {prog : Program} {w : World} {h₀ : Heap} {L : Addr} {m : Str → Option Value} {A : Around} {E : Value → Shared → Prop} {s : Shared} {x : Str} {t : Tok} {Q : Value → Shared → Prop}
def joins : List PyData := [.str (Str.ofString "and"), .str (Str.ofString "or"), .str (Str.ofString "implies"), .str (Str.ofString "iff")]
theorem notin_joins (b : Bool) (F : Fr h₀ L s.heap m) (X : (hd02.heap_39 w.params).In h₀) (hx : PyData.strOk x = true) (hb : (!joins.any fun y => PyData.eqv y (.str x)) = b) (hu : A.units + 64 < cLine) (h : Q (.bool b) s) :
    wpAny (model prog w) A (compareOp .NotIn (.str x t) (.ref 17)) Q E s := by
  have r : Reads s.heap (.ref 17) (.tuple joins) _ := reads_tuple_at (F.keep _ _ (X 17 _ rfl)) rfl rfl (.cons (.str _ _) (.cons (.str _ _) (.cons (.str _ _) (.cons (.str _ _) .nil))))
  refine SeqAt.notIn_tuple_reads r (Reads.str x t) (by decide +kernel) (by simpa [PyData.canLay0] using hx) ?_ (by rw [hb]; exact h)
  have : PyData.depthAll joins ≤ 1 := by decide +kernel
  omega
end
inductive SRel (news : List (Addr × Obj)) : List Value → Fm → Prop
  | mk {v : Value} {f : Fm} : FIn news v f → SRel news [v] f
/-- what simplify hands back -/
def SOut (news : List (Addr × Obj)) (r : Value) (f : Fm) : Prop := ∃ g : Fm, FIn news r g ∧ (∀ v, g.ev v = f.ev v) ∧ g.size ≤ f.size
abbrev simT : ToldN Fm where
  Rel := SRel
  Ok := fun f => f.size ≤ 20
  size := fun f => f.size + 20
  Tl := ktnAny
  Out := SOut
local macro_rules | `(tactic| ktr_rel) => `(tactic| ((first | (show Fm.size _ ≤ 20) | (show Fm.size _ + Fm.size _ ≤ 60)); (try simp only [Fm.size]); omega))
theorem ord3 {news A B C : List (Addr × Obj)} (hA : ∀ q ∈ news, ∀ p ∈ A, q.1 < p.1) (hB : ∀ q ∈ news ++ A, ∀ p ∈ B, q.1 < p.1) (hC : ∀ q ∈ news ++ (A ++ B), ∀ p ∈ C, q.1 < p.1) : ∀ q ∈ news, ∀ p ∈ A ++ (B ++ C), q.1 < p.1 := by
  intro q hq p hp
  simp only [List.mem_append] at hp
  rcases hp with h | h | h
  · exact hA q hq p h
  · exact hB q (List.mem_append.mpr (.inl hq)) p h
  · exact hC q (List.mem_append.mpr (.inl hq)) p h
theorem ord4 {news A B C : List (Addr × Obj)} {D : Addr} {o : Obj} (hD : AllLt D (news ++ (A ++ B))) (hA : ∀ q ∈ news, ∀ p ∈ A, q.1 < p.1) (hB : ∀ q ∈ news ++ A, ∀ p ∈ B, q.1 < p.1) (hC : ∀ q ∈ (D, o) :: (news ++ (A ++ B)), ∀ p ∈ C, q.1 < p.1) : ∀ q ∈ news, ∀ p ∈ (D, o) :: (A ++ (B ++ C)), q.1 < p.1 := by
  intro q hq p hp
  rcases List.mem_cons.mp hp with rfl | hp
  · exact ktn_ltOf hD q (List.mem_append.mpr (.inl hq))
  · exact ord3 hA hB (fun q hq => hC q (List.mem_cons_of_mem _ hq)) q hq p hp
theorem cons_sub {news tl : List (Addr × Obj)} {x : Addr × Obj} : ∀ p ∈ x :: (news ++ tl), p ∈ news ++ (x :: tl) := by
  intro p hp
  simp only [List.mem_cons, List.mem_append] at hp ⊢
  rcases hp with h | h | h
  · exact .inr (.inl h)
  · exact .inl h
  · exact .inr (.inr h)
local macro_rules | `(tactic| ktn_lt) => `(tactic| first | with_reducible assumption | exact allLt_of (by with_reducible assumption))
theorem simplify_ok (w : World) (p : Program) (loose : List Str) (mean : ExcName → Option Value) (mg mb : Str → Option Value) :
    ∀ d, TellsN PySem.Challenge.rw_ui0505_02.row.prog w (hd02.heap_39 w.params) p loose mean mg mb 39 simT d := by
  k_fill
  k_with_none
  have hAnd := and_ok w p loose mean mg mb
  have hOr := or_ok w p loose mean mg mb
  k_with "tree" => simp only [simT, andT, orT, Fm.size] at *
  k_with "compareOp Eq" => (refine' eq_F ?F ?X ?N ?a ?b ?f ?g ?u ?_; (case F => k_asm); (case X => k_asm); (case N => k_asm); (case a => ktr_rel); (case b => ktr_rel); (case f => first | omega | (simp only [Fm.size]; omega)); (case g => first | omega | (simp only [Fm.size]; omega)); (case u => ktr_units))
  k_with "compareOp NotIn str ref" => (first
    | (refine' notin_joins false ?F ?X ?x ?b ?u ?_; (case F => k_asm); (case X => k_asm); (case x => decide +kernel); (case b => decide +kernel); (case u => ktr_units))
    | (refine' notin_joins true ?F ?X ?x ?b ?u ?_; (case F => k_asm); (case X => k_asm); (case x => decide +kernel); (case b => decide +kernel); (case u => ktr_units)))
  k_with "call ref" => (ktn_call (Str.ofString "simplify") simT; (rename SOut _ _ _ => hoX); (first
    | ((have q9 := eX1); clear q9; (first | ((have q9 := eX2); clear q9; obtain ⟨gX3, hX3, eX3, dX3⟩ := hoX) | obtain ⟨gX2, hX2, eX2, dX2⟩ := hoX))
    | (obtain ⟨gX1, hX1, eX1, dX1⟩ := hoX)))
  k_with "call ref" => ktn_call (Str.ofString "_simple_and") andT
  k_with "call ref" => ktn_call (Str.ofString "_simple_or") orT
  k_with "subscriptTail" => ((have hY := hX1); ktf_split)
  refine tellsN_of fun d IH => ?_
  unfold TellsN
  intro dp un gd cn cs a ccd cl outer A₀ base h₀ L m news s vs Q E B F X N T hk hR hok hd hu hret
  obtain ⟨hF⟩ := hR
  simp only at hok hd hu
  cases hF with
  | ttG | tt | ffG | ff | «at» =>
    (try simp only [Fm.size] at hok hd hu)
    refine wpAny_call ?_
    k_dflt ktr_enter
    k_steps
    exact hret _ [] _ _ (by k_asm) (ktn_tl0 (by k_asm)) ktn_ord0 trivial ⟨_, by first | exact .ttG | exact .ffG | exact .tt (ktn_subA _ (by assumption)) | exact .ff (ktn_subA _ (by assumption)) | exact .at (ktn_subA _ (by assumption)) (ktn_subA _ (by assumption)), fun _ => rfl, Nat.le_refl _⟩
  | @no a t n v f hm h1 =>
    simp only [Fm.size] at hok hd hu
    refine wpAny_call ?_
    k_dflt ktr_enter
    k_steps
    all_goals first
      | (exact absurd rfl (by assumption))
      | ((have q : gX1 = Fm.tt := by assumption); subst q; exact hret _ _ _ _ (by k_asm) (by k_asm) (by with_reducible assumption) trivial ⟨.ff, .ffG, (fun v => by simp [Fm.ev, ← eX1]), by simp [Fm.size]⟩)
      | ((have q : gX1 = Fm.ff := by assumption); subst q; exact hret _ _ _ _ (by k_asm) (by k_asm) (by with_reducible assumption) trivial ⟨.tt, .ttG, (fun v => by simp [Fm.ev, ← eX1]), by simp [Fm.size]⟩)
      | exact hret _ _ _ _ (by k_asm) (by k_asm) (by with_reducible assumption) trivial ⟨_, by assumption, (fun v => by simp [Fm.ev, ← eX1]), by simp only [Fm.size] at dX1 ⊢; omega⟩
      | exact hret _ (_ :: _) _ _ (by k_asm) (ktn_tl2 (by k_asm)) (ktn_ord2 (by ktn_lt) (by with_reducible assumption)) trivial ⟨.no _, .no ktn_new (hX1.mono ktn_subB), (fun v => by simp only [Fm.ev, ← eX1]), by simp only [Fm.size] at dX1 ⊢; omega⟩
      | skip
  | @and a t n v v' f g hm h1 h2 =>
    simp only [Fm.size] at hok hd hu
    refine wpAny_call ?_
    k_dflt ktr_enter
    k_steps
    rename AOut _ _ _ => hoA
    obtain ⟨gA, hA, eA, dA⟩ := hoA
    exact hret _ _ _ _ (by k_asm) (by k_asm) (ord3 (by with_reducible assumption) (by with_reducible assumption) (by with_reducible assumption)) trivial ⟨gA, hA, (fun v => by simp only [Fm.ev, eA, eX1, eX2]), by simp only [Fm.size] at dA ⊢; omega⟩
  | @or a t n v v' f g hm h1 h2 =>
    simp only [Fm.size] at hok hd hu
    refine wpAny_call ?_
    k_dflt ktr_enter
    k_steps
    rename OOut _ _ _ => hoA
    obtain ⟨gA, hA, eA, dA⟩ := hoA
    exact hret _ _ _ _ (by k_asm) (by k_asm) (ord3 (by with_reducible assumption) (by with_reducible assumption) (by with_reducible assumption)) trivial ⟨gA, hA, (fun v => by simp only [Fm.ev, eA, eX1, eX2]), by simp only [Fm.size] at dA ⊢; omega⟩
  | @imp a t n v v' f g hm h1 h2 =>
    simp only [Fm.size] at hok hd hu
    have hpf := Fm.size_pos f
    have hpg := Fm.size_pos g
    refine wpAny_call ?_
    k_dflt ktr_enter
    k_steps
    all_goals first
      | ((have q : gX2 = Fm.ff := by assumption); exact hret _ (_ :: _) _ _ (by k_asm) (ktn_tl2 (by k_asm)) (ord4 (by ktn_lt) (by with_reducible assumption) (by with_reducible assumption) (by with_reducible assumption)) trivial ⟨gX3, hX3.mono cons_sub, (fun v => by have h2 := eX2 v; rw [q] at h2; simp [Fm.ev, eX3, ← eX1, ← h2]), by simp only [Fm.size] at dX3 ⊢; omega⟩)
      | ((have q : gX1 = Fm.tt := by assumption); exact hret _ _ _ _ (by k_asm) (by k_asm) (ktn_ordA (by with_reducible assumption) (by with_reducible assumption)) trivial ⟨gX2, hX2, (fun v => by have h1 := eX1 v; rw [q] at h1; simp [Fm.ev, eX2, ← h1]), by simp only [Fm.size]; omega⟩)
      | ((have q : gX1 = Fm.ff := by assumption); exact hret _ _ _ _ (by k_asm) (by k_asm) (ktn_ordA (by with_reducible assumption) (by with_reducible assumption)) trivial ⟨.tt, .ttG, (fun v => by have h1 := eX1 v; rw [q] at h1; simp [Fm.ev, ← h1]), by simp only [Fm.size]; omega⟩)
      | ((have q : gX2 = Fm.tt := by assumption); exact hret _ _ _ _ (by k_asm) (by k_asm) (ktn_ordA (by with_reducible assumption) (by with_reducible assumption)) trivial ⟨.tt, .ttG, (fun v => by have h2 := eX2 v; rw [q] at h2; simp [Fm.ev, ← h2]), by simp only [Fm.size]; omega⟩)
      | ((have q : gX1 = gX2 := by assumption); exact hret _ _ _ _ (by k_asm) (by k_asm) (ktn_ordA (by with_reducible assumption) (by with_reducible assumption)) trivial ⟨.tt, .ttG, (fun v => by have h1 := eX1 v; have h2 := eX2 v; rw [q] at h1; simp [Fm.ev, ← h1, ← h2]), by simp only [Fm.size]; omega⟩)
      | exact hret _ (_ :: _) _ _ (by k_asm) (ktn_tl2 (by k_asm)) (ktn_ord2 (by ktn_lt) (ktn_ordA (by with_reducible assumption) (by with_reducible assumption))) trivial ⟨.imp gX1 gX2, .imp ktn_new (hX1.mono ktn_subD) (hX2.mono ktn_subB), (fun v => by simp only [Fm.ev, eX1, eX2]), by simp only [Fm.size]; omega⟩
      | skip
  | @iff a t n v v' f g hm h1 h2 =>
    simp only [Fm.size] at hok hd hu
    have hpf := Fm.size_pos f
    have hpg := Fm.size_pos g
    refine wpAny_call ?_
    k_dflt ktr_enter
    k_steps
    all_goals first
      | ((have q : gX1 = Fm.ff := by assumption); exact hret _ (_ :: _) _ _ (by k_asm) (ktn_tl2 (by k_asm)) (ord4 (by ktn_lt) (by with_reducible assumption) (by with_reducible assumption) (by with_reducible assumption)) trivial ⟨gX3, hX3.mono cons_sub, (fun v => by have h1 := eX1 v; rw [q] at h1; simp [Fm.ev, eX3, ← eX2, ← h1]), by simp only [Fm.size] at dX3 ⊢; omega⟩)
      | ((have q : gX2 = Fm.ff := by assumption); exact hret _ (_ :: _) _ _ (by k_asm) (ktn_tl2 (by k_asm)) (ord4 (by ktn_lt) (by with_reducible assumption) (by with_reducible assumption) (by with_reducible assumption)) trivial ⟨gX3, hX3.mono cons_sub, (fun v => by have h2 := eX2 v; rw [q] at h2; simp [Fm.ev, eX3, ← eX1, ← h2]), by simp only [Fm.size] at dX3 ⊢; omega⟩)
      | ((have q : gX1 = gX2 := by assumption); exact hret _ _ _ _ (by k_asm) (by k_asm) (ktn_ordA (by with_reducible assumption) (by with_reducible assumption)) trivial ⟨.tt, .ttG, (fun v => by have h1 := eX1 v; have h2 := eX2 v; rw [q] at h1; simp [Fm.ev, ← h1, ← h2]), by simp only [Fm.size]; omega⟩)
      | ((have q : gX1 = Fm.tt := by assumption); exact hret _ _ _ _ (by k_asm) (by k_asm) (ktn_ordA (by with_reducible assumption) (by with_reducible assumption)) trivial ⟨gX2, hX2, (fun v => by have h1 := eX1 v; rw [q] at h1; simp [Fm.ev, eX2, ← h1]), by simp only [Fm.size]; omega⟩)
      | ((have q : gX2 = Fm.tt := by assumption); exact hret _ _ _ _ (by k_asm) (by k_asm) (ktn_ordA (by with_reducible assumption) (by with_reducible assumption)) trivial ⟨gX1, hX1.mono ktn_subC, (fun v => by have h2 := eX2 v; rw [q] at h2; simp [Fm.ev, eX1, ← h2]), by simp only [Fm.size]; omega⟩)
      | exact hret _ (_ :: _) _ _ (by k_asm) (ktn_tl2 (by k_asm)) (ktn_ord2 (by ktn_lt) (ktn_ordA (by with_reducible assumption) (by with_reducible assumption))) trivial ⟨.iff gX1 gX2, .iff ktn_new (hX1.mono ktn_subD) (hX2.mono ktn_subB), (fun v => by simp only [Fm.ev, eX1, eX2]), by simp only [Fm.size]; omega⟩
      | skip
end Mine
end
section
open PySem PySem.W PyProof.Rows PyProof.V PySem.Spec
namespace Mine
/-- the stack's items -/
inductive StIn (tl : List (Addr × Obj)) : List Value → List Fm → Prop
  | nil : StIn tl [] []
  | snoc {a : Addr} {v : Value} {b z : Int} {t u : Tok} {n : Nat} {f : Fm} {vs : List Value} {fs : List Fm} : StIn tl vs fs → (a, tup [v, .int b t, .int z u] n) ∈ tl → b = (f.bits : Int) → z = (f.size : Int) → FIn tl v f → f.size ≤ 12 → StIn tl (vs ++ [.ref a]) (fs ++ [f])
theorem StIn.mono {tl tl' : List (Addr × Obj)} {vs : List Value} {fs : List Fm} (h : StIn tl vs fs) (hs : ∀ p ∈ tl, p ∈ tl') : StIn tl' vs fs := by
  induction h with
  | nil => exact .nil
  | snoc _ hm hb hy hf hz ih => exact .snoc ih (hs _ hm) hb hy (hf.mono hs) hz
def LInv (lst : Addr) (i : Nat) (m : Str → Option Value) (nx : List (Addr × Obj)) : Prop :=
  ∃ (e : Nat) (vs : List Value) (fs : List Fm) (tl : List (Addr × Obj)), nx = (lst, listOf vs.toArray e) :: tl ∧ StIn tl vs fs ∧ fs ≠ [] ∧ vs.length ≤ i + 1 ∧ (∀ p ∈ tl, p.1 ≠ lst) ∧ m (Str.ofString "stack") = some (.ref lst)
section
variable {prog : Program} {w : World} {A : Around} {E : Value → Shared → Prop} {s : Shared} {a b : Int} {t u : Tok} {Q : Value → Shared → Prop}
theorem mod_is {k : Int} (h : Int.fmod a b = k) (hb : b ≠ 0) (hQ : Q (.int k s.toks) { s with toks := s.toks + 1 }) : wpAny (model prog w) A (binaryOp .Mod (.int a t) (.int b u)) Q E s :=
  mod_int' hb (by rw [h]; exact hQ)
theorem item_last {value slice : PySem.Expr} {l : Addr} {vs : List Value} {x : Value} (hl : s.heap.IsList l (vs ++ [x]).toArray) (h : Q x s)
    (hs : subscripted slice false (.ref l) (.int (-1) u) = operate [.ref l, .int (-1) u] (getItem (.ref l) (.int (-1) u)) := by with_unfolding_all rfl) :
    wpAny (model prog w) A (subscriptTail value slice (.ref l) (.int (-1) u)) Q E s := by
  refine tail_any hl.typeIs slot_list_getitem.lookup (wpAny_getItem_list_neg hl (by decide) ?_ (by decide) ?_ h) hs
  · simp only [List.size_toArray, List.length_append, List.length_singleton]; omega
  · have e : ((-1 : Int) + ((vs ++ [x]).toArray.size : Nat)).toNat = vs.length := by simp only [List.size_toArray, List.length_append, List.length_singleton]; omega
    rw [e]; simp
theorem item_last2 {value slice : PySem.Expr} {l : Addr} {vs : List Value} {x y : Value} (hl : s.heap.IsList l (vs ++ [x] ++ [y]).toArray) (h : Q x s)
    (hs : subscripted slice false (.ref l) (.int (-2) u) = operate [.ref l, .int (-2) u] (getItem (.ref l) (.int (-2) u)) := by with_unfolding_all rfl) :
    wpAny (model prog w) A (subscriptTail value slice (.ref l) (.int (-2) u)) Q E s := by
  refine tail_any hl.typeIs slot_list_getitem.lookup (wpAny_getItem_list_neg hl (by decide) ?_ (by decide) ?_ h) hs
  · simp only [List.size_toArray, List.length_append, List.length_singleton]; omega
  · have e : ((-2 : Int) + ((vs ++ [x] ++ [y]).toArray.size : Nat)).toNat = vs.length := by simp only [List.size_toArray, List.length_append, List.length_singleton]; omega
    rw [e]; simp
end
section
variable {prog : Program} {w : World} {A : Around} {E : Value → Shared → Prop} {s : Shared} {env : Env} {h₀ : Heap} {x : Str} {body : List Stmt} {Q : Flow → Shared → Prop}
theorem law_loop {l lst : Addr} {o : Obj} {rest : List (Addr × Obj)} {vs : List Value} {ns : List Int} {m₀ : Str → Option Value} (hx : (Str.ofString "stack" : Str) ≠ x)
    (hh : A.handled = none) (hl : h₀.IsList l vs.toArray) (hi : IntsAre vs ns) (F : Fr h₀ env.locals s.heap m₀) (N : News h₀ env.locals s.heap ((lst, o) :: rest)) (hj : LInv lst 0 m₀ ((lst, o) :: rest))
    (turn : ∀ (i : Nat) (n : Int) (t : Tok) (m₁ : Str → Option Value) (e : Nat) (us : List Value) (fs : List Fm) (tl : List (Addr × Obj)) (h : Heap) (tk : Nat) (own : List (Addr × Obj)),
      i < ns.length → OwnOff own (((lst, listOf us.toArray e) :: tl).map (·.1)) → StIn tl us fs → fs ≠ [] → us.length ≤ i + 1 → (∀ p ∈ tl, p.1 ≠ lst) → (∀ p ∈ tl ++ own, p.1 ≠ lst) →
      Fr h₀ env.locals h (fun y => if y = x then some (.int n t) else if y = Str.ofString "stack" then some (.ref lst) else m₁ y) → News h₀ env.locals h ((lst, listOf us.toArray e) :: (tl ++ own)) →
      wpAny (model prog w) A (execs body env) (InvPostG h₀ env.locals (LInv lst (i + 1)) own { s with heap := h, toks := tk } Q) E { s with heap := h, toks := tk })
    (done : ∀ (m₁ : Str → Option Value) (e : Nat) (us : List Value) (fs : List Fm) (tl : List (Addr × Obj)) (h : Heap) (tk : Nat), StIn tl us fs → fs ≠ [] → us.length ≤ ns.length + 1 →
      Fr h₀ env.locals h (fun y => if y = Str.ofString "stack" then some (.ref lst) else m₁ y) → News h₀ env.locals h ((lst, listOf us.toArray e) :: tl) → Q .next { s with heap := h, toks := tk }) :
    wpAny (model prog w) A (pyIter (.ref l)) (fun it s₂ => LoopAtV prog w A h₀ env x body Q E it s₂) E s := by
  have key : ∀ (m : Str → Option Value), m (Str.ofString "stack") = some (.ref lst) → m = fun y => if y = Str.ofString "stack" then some (.ref lst) else m y := by
    intro m hm
    funext y
    by_cases hy : y = Str.ofString "stack"
    · simp [hy, hm]
    · simp [hy]
  refine iter_invG (LInv lst) hh hl hi F N hj ?_ ?_
  · rintro i n t m₁ news₁ h tk own hn hown hoff ⟨e, us, fs, tl, rfl, hS, hne, hlen, hap, hst⟩ F₁ N₁
    rw [key m₁ hst] at F₁
    refine turn i n t m₁ e us fs tl h tk own (List.getElem?_eq_some_iff.mp hn).1 hoff hS hne hlen hap ?_ F₁ N₁
    intro p hp
    rcases List.mem_append.mp hp with hp | hp
    · exact hap p hp
    · exact hoff p hp lst List.mem_cons_self
  · rintro m₁ news₁ h tk ⟨e, us, fs, tl, rfl, hS, hne, hlen, hap, hst⟩ F₁ N₁
    rw [key m₁ hst] at F₁
    exact done m₁ e us fs tl h tk hS hne hlen F₁ N₁
end
/-- between the two halves of a turn -/
def Mid (h₀ : Heap) (L lst : Addr) (own : List (Addr × Obj)) (r : Int) (i : Nat) (s₀ : Shared) (fl : Flow) (s' : Shared) : Prop :=
  fl = .next ∧ ∃ (tr : Tok) (e : Nat) (vs : List Value) (a : Addr) (v : Value) (b z : Int) (t u : Tok) (n : Nat) (f : Fm) (fs : List Fm) (tl : List (Addr × Obj)) (h' : Heap) (tk' : Nat) (m' : Str → Option Value),
    s' = { s₀ with heap := h', toks := tk' } ∧ Fr h₀ L h' m' ∧ m' (Str.ofString "row") = some (.int r tr) ∧ m' (Str.ofString "stack") = some (.ref lst) ∧
    News h₀ L h' ((lst, listOf (vs ++ [Value.ref a]).toArray e) :: (tl ++ own)) ∧ StIn tl vs fs ∧ (a, tup [v, .int b t, .int z u] n) ∈ tl ∧ b = (f.bits : Int) ∧ z = (f.size : Int) ∧ FIn tl v f ∧ f.size ≤ 12 ∧ vs.length ≤ i + 1 ∧ (∀ p ∈ tl, p.1 ≠ lst) ∧ (∀ p ∈ own, ∀ q ∈ tl, p.1 ≠ q.1)
section
variable {M : Model} {A : Around} {E : Value → Shared → Prop} {s : Shared} {env : Env}
theorem execs_mid {st : Stmt} {rest : List Stmt} {Q : Flow → Shared → Prop} {h₀ : Heap} {L lst : Addr} {o : Obj} {tl own : List (Addr × Obj)} {m : Str → Option Value} (r : Int) (i : Nat) (_F : Fr h₀ L s.heap m) (_N : News h₀ L s.heap ((lst, o) :: (tl ++ own)))
    (h1 : wpAny M A (exec st env) (Mid h₀ L lst own r i s) E s) (h2 : ∀ s', Mid h₀ L lst own r i s .next s' → wpAny M A (execs rest env) Q E s') : wpAny M A (execs (st :: rest) env) Q E s := by
  refine wpAny_execs_cons (wpAny_mono h1 (fun f s' h => ?_) fun _ _ x => x)
  obtain rfl := h.1
  exact h2 s' h
end
section
variable {h₀ h' : Heap} {L lst : Addr} {own tl led : List (Addr × Obj)} {r : Int} {tr : Tok} {i tk' : Nat} {s₀ : Shared} {m' : Str → Option Value} {vs : List Value} {e : Nat}
theorem mid_of {us : List Value} {fs : List Fm} (F : Fr h₀ L h' m') (hrow : m' (Str.ofString "row") = some (.int r tr)) (hst : m' (Str.ofString "stack") = some (.ref lst)) (N : News h₀ L h' led)
    (hsub : ∀ p ∈ (lst, listOf us.toArray e) :: (tl ++ own), p ∈ led) (hS : StIn tl us fs) (hne : fs ≠ []) (hlen : us.length ≤ i + 2) (hap : ∀ p ∈ tl, p.1 ≠ lst) (hoff : ∀ p ∈ own, ∀ q ∈ tl, p.1 ≠ q.1) :
    Mid h₀ L lst own r i s₀ .next { s₀ with heap := h', toks := tk' } := by
  cases hS with
  | nil => exact absurd rfl hne
  | snoc hS hm hb hz hf hy =>
    refine ⟨rfl, tr, e, _, _, _, _, _, _, _, _, _, _, tl, h', tk', m', rfl, F, hrow, hst, fun p hp => N p (hsub p hp), hS, hm, hb, hz, hf, hy, ?_, hap, hoff⟩
    simp only [List.length_append, List.length_singleton] at hlen
    omega
end
theorem mid_pre {h₀ h' : Heap} {L lst : Addr} {own tl pre : List (Addr × Obj)} {r : Int} {tr : Tok} {i tk' : Nat} {s₀ : Shared} {m' : Str → Option Value} {e : Nat} {us : List Value} {fs : List Fm} (F : Fr h₀ L h' m') (hrow : m' (Str.ofString "row") = some (.int r tr)) (hst : m' (Str.ofString "stack") = some (.ref lst))
    (N : News h₀ L h' (pre ++ (lst, listOf us.toArray e) :: (tl ++ own))) (hpre : ∀ q ∈ pre, lst < q.1 ∧ AllLt q.1 (tl ++ own)) (hS : StIn (pre ++ tl) us fs) (hne : fs ≠ []) (hlen : us.length ≤ i + 2) (hap : ∀ p ∈ tl, p.1 ≠ lst) (hown : ∀ p ∈ own, ∀ q ∈ tl, p.1 ≠ q.1) :
    Mid h₀ L lst own r i s₀ .next { s₀ with heap := h', toks := tk' } := by
  refine mid_of (e := e) F hrow hst N ?_ hS hne hlen ?_ ?_
  · intro p hp
    simp only [List.mem_cons, List.mem_append] at hp ⊢
    rcases hp with h | (h | h) | h
    · exact .inr (.inl h)
    · exact .inl h
    · exact .inr (.inr (.inl h))
    · exact .inr (.inr (.inr h))
  · intro p hp
    rcases List.mem_append.mp hp with h | h
    · exact Nat.ne_of_gt (hpre p h).1
    · exact hap p h
  · intro p hp q hq
    rcases List.mem_append.mp hq with h | h
    · exact Nat.ne_of_lt (ktn_ltOf (hpre q h).2 p (List.mem_append.mpr (.inr hp)))
    · exact hown p hp q h
theorem lett0 : Txt.item (Str.ofString "pqr") 0 = lett 0 := by decide +kernel
theorem lett1 : Txt.item (Str.ofString "pqr") 1 = lett 1 := by decide +kernel
theorem lett2 : Txt.item (Str.ofString "pqr") 2 = lett 2 := by decide +kernel
theorem lett_item : ∀ k : Fin 3, Txt.item (Str.ofString "pqr") (k : Nat) = lett k := by decide +kernel
theorem len_two {prog : Program} {w : World} {A : Around} {E : Value → Shared → Prop} {s : Shared} {Q : Value → Shared → Prop} {l : Addr} {vs : List Value} {x y : Value} (hl : s.heap.IsList l (vs ++ [x] ++ [y]).toArray) (hfit : vs.length ≤ 100)
    (h : Q (.int ((vs.length : Int) + 2) (s.toks + 1)) { s with toks := s.toks + 1 + 1 }) : wpAny (model prog w) A (call (.builtin "len") [.ref l]) Q E s := by
  have e : ((vs ++ [x] ++ [y]).toArray.size : Int) = (vs.length : Int) + 2 := by simp only [List.size_toArray, List.length_append, List.length_singleton]; omega
  exact PyProof.Rows.len_list hl (by rw [e]; omega) (by rw [e]; exact h)
theorem len_more {prog : Program} {w : World} {A : Around} {E : Value → Shared → Prop} {s : Shared} {Q : Value → Shared → Prop} {l : Addr} {vs : List Value} {x : Value} (hl : s.heap.IsList l (vs ++ [x]).toArray) (hfit : vs.length ≤ 100)
    (h : Q (.int ((vs.length : Int) + 1) (s.toks + 1)) { s with toks := s.toks + 1 + 1 }) : wpAny (model prog w) A (call (.builtin "len") [.ref l]) Q E s := by
  have e : ((vs ++ [x]).toArray.size : Int) = (vs.length : Int) + 1 := by simp only [List.size_toArray, List.length_append, List.length_singleton]; omega
  exact PyProof.Rows.len_list hl (by rw [e]; omega) (by rw [e]; exact h)
theorem ite_lt {a b : Int} {P Q : Prop} (h1 : a < b → P) (h2 : ¬ a < b → Q) : if (decide (a < b)) = true then P else Q := by
  by_cases h : a < b
  · rw [if_pos (decide_eq_true h)]; exact h1 h
  · rw [if_neg (by simpa using h)]; exact h2 h
theorem ite_lt_no {a b : Int} {P Q : Prop} (h : ¬ a < b) (h2 : Q) : if (decide (a < b)) = true then P else Q := by
  rw [if_neg (by simpa using h)]; exact h2
theorem ite_lt_yes {a b : Int} {P Q : Prop} (h : a < b) (h2 : P) : if (decide (a < b)) = true then P else Q := by
  rw [if_pos (decide_eq_true h)]; exact h2
section
variable {prog : Program} {w : World} {A : Around} {E : Value → Shared → Prop} {s : Shared} {a b : Int} {t u : Tok} {c d : Bool} {Q : Value → Shared → Prop}
theorem eq_is (h : decide (a = b) = c) (hQ : Q (.bool c) s) : wpAny (model prog w) A (compareOp .Eq (.int a t) (.int b u)) Q E s := by
  subst h
  exact eq_int hQ
theorem ne_no (h : c = d) (hQ : Q (.bool false) s) : wpAny (model prog w) A (compareOp .NotEq (.bool c) (.bool d)) Q E s := by
  subst h
  exact ne_bool (by rw [bne_self_eq_false]; exact hQ)
theorem eq_no (h : c = !d) (hQ : Q (.bool false) s) : wpAny (model prog w) A (compareOp .Eq (.bool c) (.bool d)) Q E s := by
  subst h
  exact eq_bool (by rw [show ((!d) == d) = false by cases d <;> rfl]; exact hQ)
end
section
variable {prog : Program} {w : World} {A : Around} {E : Value → Shared → Prop} {s : Shared} {b r : Int} {t u : Tok} {Q : Value → Shared → Prop}
theorem pow_row (h0 : 0 ≤ r) (h8 : r < 8) (hQ : Q (.int (2 ^ r.toNat) s.toks) { s with toks := s.toks + 1 }) : wpAny (model prog w) A (binaryOp .Pow (.int 2 t) (.int r u)) Q E s :=
  pow_int_small h0 (by omega) (by decide) hQ
theorem pow8 : ∀ k : Fin 8, ((2 : Int) ^ (k : Nat)).natAbs.log2 < 9000 ∧ (2 : Int) ^ (k : Nat) ≠ 0 := by decide +kernel
theorem div_row (h0 : 0 ≤ r) (h8 : r < 8) (hQ : Q (.int (b.fdiv (2 ^ r.toNat)) s.toks) { s with toks := s.toks + 1 }) : wpAny (model prog w) A (binaryOp .FloorDiv (.int b t) (.int (2 ^ r.toNat) u)) Q E s :=
  have h := pow8 ⟨r.toNat, by omega⟩
  floordiv_int h.2 hQ (Or.inl (PyProof.noPylong_of_log2 h.1))
end
theorem row_of {m : Str → Option Value} {r : Int} {tr : Tok} {lst : Addr} (h1 : m (Str.ofString "row") = some (.int r tr)) (h2 : m (Str.ofString "stack") = some (.ref lst)) :
    m = fun y => if y = Str.ofString "row" then some (.int r tr) else if y = Str.ofString "stack" then some (.ref lst) else m y := by
  funext y
  by_cases h : y = Str.ofString "row"
  · simp [h, h1]
  · by_cases h' : y = Str.ofString "stack"
    · subst h'; rw [h2, if_neg (by decide +kernel), if_pos rfl]
    · simp [h, h']
theorem bne_f (b : Bool) : (b != false) = b := by cases b <;> rfl
theorem bne_t (b : Bool) : (b != true) = !b := by cases b <;> rfl
theorem sub_mid {tl own : List (Addr × Obj)} {x : Addr × Obj} : ∀ p ∈ tl, p ∈ x :: (tl ++ own) := fun _ h => List.mem_cons_of_mem _ (List.mem_append.mpr (.inl h))
theorem end_of {h₀ h' : Heap} {L lst : Addr} {own tl news' : List (Addr × Obj)} {i tk : Nat} {s₁ : Shared} {m' : Str → Option Value} {e : Nat} {us : List Value} {fs : List Fm} (F : Fr h₀ L h' m') (N : News h₀ L h' news') (hst : m' (Str.ofString "stack") = some (.ref lst))
    (hS : StIn tl us fs) (hne : fs ≠ []) (hlen : us.length ≤ i + 1) (hap : ∀ p ∈ tl, p.1 ≠ lst) (ho : ∀ p ∈ own, ∀ q ∈ tl, p.1 ≠ q.1) (hol : ∀ p ∈ own, p.1 ≠ lst) (hl : (lst, listOf us.toArray e) ∈ news') (ht : ∀ p ∈ tl, p ∈ news') (hw : ∀ p ∈ own, p ∈ news') :
    InvEndG h₀ L (LInv lst i) own s₁ { s₁ with heap := h', toks := tk } := by
  refine InvEndG.intro (nx := (lst, listOf us.toArray e) :: tl) F N ⟨e, us, fs, tl, rfl, hS, hne, hlen, hap, hst⟩ ?_ ?_ hw
  · intro p hp b hb
    obtain ⟨q, hq, rfl⟩ := List.mem_map.mp hb
    rcases List.mem_cons.mp hq with rfl | hq
    · exact hol p hp
    · exact ho p hp q hq
  · intro p hp
    rcases List.mem_cons.mp hp with rfl | hp
    · exact hl
    · exact ht p hp
section
variable {p : Program} {loose : List Str} {mean : ExcName → Option Value} {mg mb : Str → Option Value} {h₀ h₁ : Heap} {w : World}
theorem value_of (_ : (hd02.heap_39 w.params).In h₁) (_ : Top p loose mean mg mb h₀) : ∀ d, TellsN PySem.Challenge.rw_ui0505_02.row.prog w (hd02.heap_39 w.params) p loose mean mg mb 24 (valueT PySem.Challenge.rw_ui0505_02.row.prog w) d := value_ok w p loose mean mg mb
theorem simp_of (_ : (hd02.heap_39 w.params).In h₁) (_ : Top p loose mean mg mb h₀) : ∀ d, TellsN PySem.Challenge.rw_ui0505_02.row.prog w (hd02.heap_39 w.params) p loose mean mg mb 39 simT d := simplify_ok w p loose mean mg mb
theorem inw_of (_ : (hd02.heap_39 w.params).In h₁) (_ : Top p loose mean mg mb h₀) : ∀ d, TellsN PySem.Challenge.rw_ui0505_02.row.prog w (hd02.heap_39 w.params) p loose mean mg mb 32 inwT d := inward_ok w p loose mean mg mb
end
theorem valRel_of {prog : Program} {w : World} {news : List (Addr × Obj)} {v : Value} {D : Addr} {f f₀ : Fm} {p q r dv : Bool} {o : Obj} {kvs : List (Str × Value)} (_ : Fm.ev (rowB p q r) f₀ = dv) (hF : FIn news v f) (R : RowIn prog w news D (rowB p q r) o kvs) :
    ValRel prog w news [v, .ref D] (f, rowB p q r) := .mk hF R
end Mine
end
section
open PySem PySem.W PyProof.Rows PyProof.V PySem.Spec
namespace Mine
local macro_rules | `(tactic| k_mem) => `(tactic| first | exact List.mem_cons_self | (refine List.mem_cons_of_mem _ ?_; k_mem))
local macro_rules | `(tactic| k_all) => `(tactic| with_reducible assumption)
local macro_rules | `(tactic| walk_at "ite") => `(tactic| (k_openite; (with_reducible show ite (decide ((_ : Int) < 12) = true) _ _); (first | (with_reducible refine ite_lt_yes (by with_reducible assumption) ?_) | (with_reducible refine ite_lt_no (by with_reducible assumption) ?_)); (try dsimp only)))
local macro_rules | `(tactic| walk_at "exec If") => `(tactic| (with_reducible refine wpAny_If ?_))
local macro_rules | `(tactic| walk_at "execs cons If cons") => `(tactic| (with_reducible refine wpAny_execs_cons ?_))
local macro_rules | `(tactic| walk_at "execs cons If nil") => `(tactic| (with_reducible refine wpAny_execs_cons ?_))
local macro_rules | `(tactic| walk_at "execs cons Assign cons") => `(tactic| (with_reducible refine wpAny_execs_cons ?_))
local macro_rules | `(tactic| ktn_lt) => `(tactic| first
  | with_reducible assumption
  | exact And.right (a := _) (by with_reducible assumption)
  | exact And.right (a := _) (And.right (a := _) (by with_reducible assumption))
  | exact And.right (a := _) (And.right (a := _) (And.right (a := _) (by with_reducible assumption)))
  | exact And.right (a := _) (And.right (a := _) (And.right (a := _) (And.right (a := _) (by with_reducible assumption))))
  | exact And.right (a := _) (And.right (a := _) (And.right (a := _) (And.right (a := _) (And.right (a := _) (by with_reducible assumption)))))
  | exact And.right (a := _) (And.right (a := _) (And.right (a := _) (And.right (a := _) (And.right (a := _) (And.right (a := _) (by with_reducible assumption))))))
  | exact And.right (a := _) (And.right (a := _) (And.right (a := _) (And.right (a := _) (And.right (a := _) (And.right (a := _) (And.right (a := _) (by with_reducible assumption))))))))
local macro_rules | `(tactic| walk_at "call ref") => `(tactic| k_extra "call ref")
local macro_rules | `(tactic| walk_at "evalPairs") => `(tactic| (dsimp only; walk_at "evalPairs"))
local macro_rules | `(tactic| walk_at "eval Name") => `(tactic| (dsimp only; walk_at "eval Name"))
local macro_rules | `(tactic| walk_at "binaryOp Sub int int") => `(tactic| (dsimp only; walk_at "binaryOp Sub int int"))
local macro_rules | `(tactic| walk_at "binaryOp Pow int int") => `(tactic| (dsimp only; walk_at "binaryOp Pow int int"))
local macro_rules | `(tactic| walk_at "getItem ref str") => `(tactic| (dsimp only; walk_at "getItem ref str"))
local macro_rules | `(tactic| walk_at "storeName") => `(tactic| (dsimp only; walk_at "storeName"))
local macro_rules | `(tactic| walk_at "newTuple") => `(tactic| (dsimp only; walk_at "newTuple"))
local macro_rules | `(tactic| ktr_rel) => `(tactic| first
  | exact trivial
  | ((rename (Fm.ev (rowB _ _ _) _ = _) => hd9); (refine' valRel_of hd9 (FIn.mono (by with_reducible assumption) ?rs) (RowIn.mk ?rm ?rl ?rd ?rf)); (case rs => (intro p hp; first | exact hp | exact List.mem_cons_of_mem _ hp | simp only [List.mem_cons, List.mem_append, hp, true_or, or_true])); (case rd => assumption); (case rl => assumption); (case rm => k_mem); (case rf => assumption))
  | ((refine' SRel.mk (FIn.mono (by with_reducible assumption) ?rs)); (case rs => (intro p hp; first | exact hp | exact List.mem_cons_of_mem _ hp | simp only [List.mem_cons, List.mem_append, hp, true_or, or_true])))
  | ((refine' InwRel.two (FIn.mono (by with_reducible assumption) ?rs)); (case rs => (intro p hp; first | exact hp | exact List.mem_cons_of_mem _ hp | simp only [List.mem_cons, List.mem_append, hp, true_or, or_true])))
  | ((refine' InwRel.one (FIn.mono (by with_reducible assumption) ?rs)); (case rs => (intro p hp; first | exact hp | exact List.mem_cons_of_mem _ hp | simp only [List.mem_cons, List.mem_append, hp, true_or, or_true])))
  | ((show Fm.size _ ≤ 20); omega))
theorem t : PySem.Challenge.rw_ui0505_02.Holds := hd02 (by
  k_with_none
  k_with "pyIter ref" => fail
  w_strict (k_go0; (all_goals try k_fold); k_steps)
  (rename Fr _ _ _ _ => lF)
  (rename News _ _ _ _ => lN)
  (rename IntsAre _ _ => hI)
  (rename Heap.IsList _ _ _ => hL)
  (rename (_ < _ ∧ _ < _) => l1)
  (rename (¬ (_ : Int) < _) => h63)
  refine law_loop (by decide +kernel) rfl hL hI lF lN ?start ?turn ?done
  case start => exact ⟨_, [_], [Fm.tt], _, rfl, .snoc (vs := []) (fs := [])   .nil List.mem_cons_self rfl rfl (.tt (List.mem_cons_of_mem _ List.mem_cons_self)) (by decide), by simp, by simp, (List.forall_mem_cons.mpr ⟨Nat.ne_of_lt l1.1, List.forall_mem_cons.mpr ⟨Nat.ne_of_lt l1.2, List.forall_mem_nil _⟩⟩), rfl⟩
  case done =>
    clear lN lF
    intro m₁ e us fs tl h tk hS hne hlen F₁ N₁
    cases hS with
    | nil => exact absurd rfl hne
    | @snoc a v b z t' u' n' f vs fs hS hm hb hz hF hsz =>
    have hfit : vs.length ≤ 100 := by simp only [List.length_append, List.length_singleton] at hlen; omega
    k_with "call builtin:len cons nil" => (refine len_more (News.isList (by k_asm) (by k_mem)) (by with_reducible assumption) ?_; (try dsimp only))
    (try dsimp only)
    (try k_fold)
    k_steps
  clear lN lF
  (try ((rename Ground .. => c9); clear c9))
  (try ((rename Hook.says .. => c9); clear c9))
  (try ((rename Flt.MathXP .. => c9); clear c9))
  (try ((rename LooseAre .. => c9); clear c9))
  (try ((rename Glob .. => c9); clear c9))
  (try ((rename Tables .. => c9); clear c9))
  (try ((rename TopE .. => c9); clear c9))
  (try ((rename TopW .. => c9); clear c9))
  (try ((rename BMod .. => c9); clear c9))
  (try ((rename Heap.CodeRec .. => c9); clear c9))
  (try ((rename Dflts .. => c9); clear c9))
  (try ((rename Well .. => c9); clear c9))
  (try ((rename Reads .. => c9); clear c9))
  (try ((rename ReadsAll .. => c9); clear c9))
  (try ((rename ReadsAllW .. => c9); clear c9))
  (try ((rename Spec.Shape.has .. = true => c9); clear c9))
  (try ((rename PyData.layableAll0 .. = true => c9); clear c9))
  (try ((rename PyData.layable0 .. = true => c9); clear c9))
  (try ((rename WShape.hasAll .. = true => c9); clear c9))
  (try ((rename WData.layableAll .. = true => c9); clear c9))
  (try ((rename Heap.get? .. = some _ => c9); clear c9))
  (try ((rename Heap.IsList .. => c9); clear c9))
  intro i n t m₁ e us fs tl h tk own hi hoff hS hne hlen hap hall F₁ N₁
  obtain ⟨k, hk⟩ : ∃ k, Int.fmod n 9 = k := ⟨_, rfl⟩
  obtain ⟨r, hr⟩ : ∃ r, Int.fmod (Int.fdiv n 9) 8 = r := ⟨_, rfl⟩
  have hown : ∀ p ∈ own, ∀ q ∈ tl, p.1 ≠ q.1 := fun p hp q hq => hoff p hp q.1 (List.mem_map.mpr ⟨q, List.mem_cons_of_mem _ hq, rfl⟩)
  k_with "callWith" => ((refine callWith_method1 ?_ ?he ?hp); (case he => with_unfolding_all rfl); (case hp => with_unfolding_all rfl))
  k_with "binaryOp Mod int int" => (refine mod_is (by with_reducible assumption) (by decide) ?_)
  k_with "subscriptTail Name UnaryOp ref int" => (first
    | ((with_reducible show wpAny _ _ (subscriptTail _ _ _ (Value.int (-1) _)) _ _ _); (refine item_last (News.isList (by k_asm) (by k_mem)) ?_); (try dsimp only))
    | ((with_reducible show wpAny _ _ (subscriptTail _ _ _ (Value.int (-2) _)) _ _ _); (refine item_last2 (News.isList (by k_asm) (by k_mem)) ?_); (try dsimp only)))
  k_with "call builtin:len cons nil" => (refine len_two (News.isList (by k_asm) (by k_mem)) (by simp only [List.length_append, List.length_singleton] at hlen; omega) ?_; (try dsimp only))
  k_with "call builtin:list.pop" => ((refine kl_pop (by k_asm) (by k_asm) (kpa_last _ _) (by k_upd) (by rw [PySem.sizeLine_eq]; simp only [List.length_append, List.length_singleton] at hlen ⊢; omega) ?_); intro h9 F9 N9)
  (with_reducible show wpAny _ _ _ _ _ _)
  k_fold
  iterate 17 (first | (k_unfold; (try dsimp only)) | (k_end; wrow_close) | walk1 | (dsimp only; walk1) | (leave1; walk_say "STEP leave1"; try dsimp only))
  (rename Fr _ _ _ _ => F₂)
  (rename News _ _ _ _ => N₂)
  refine execs_mid r i F₂ N₂ ?h1 ?h2
  case h2 =>
    rintro s' ⟨-, tr, e', vs', a, v, b, z, tb, tz, nn, f, fs', tl', h', tk', m', rfl, F', hrow, hst, N', hS', hm, hb, hz, hF, hsz, hlen', hap', hown'⟩
    rw [row_of hrow hst] at F'
    clear hrow hst F₁ N₁ F₂ N₂ hS hne hlen hap hown
    have hol : ∀ p ∈ own, p.1 ≠ _ := fun p hp => hall p (List.mem_append.mpr (.inr hp))
    clear hall hoff
    have h0r : 0 ≤ r := by rw [← hr]; exact Int.fmod_nonneg_of_pos _ (by decide)
    have h8r : r < 8 := by rw [← hr]; exact Int.fmod_lt_of_pos _ (by decide)
    clear hr hk
    have hdue := due_ok h0r h8r hb
    obtain ⟨p0, hp0⟩ : ∃ p0, decide (Int.fmod (Int.fdiv r 4) 2 = 1) = p0 := ⟨_, rfl⟩
    obtain ⟨q0, hq0⟩ : ∃ p0, decide (Int.fmod (Int.fdiv r 2) 2 = 1) = p0 := ⟨_, rfl⟩
    obtain ⟨r0, hr0⟩ : ∃ p0, decide (Int.fmod r 2 = 1) = p0 := ⟨_, rfl⟩
    rw [hp0, hq0, hr0] at hdue
    obtain ⟨dv, hdv⟩ : ∃ dv, f.ev (rowB p0 q0 r0) = dv := ⟨_, rfl⟩
    rw [hdv] at hdue
    have hdep := Fm.dep_le_size f
    have hidep := Fm.idep_le_size f
    (rename Top _ _ _ _ _ _ => hT9)
    (rename Frag.In _ _ => hX9)
    have hv := value_of hX9 hT9
    have hs := simp_of hX9 hT9
    have hi9 := inw_of hX9 hT9
    k_with "compareOp Eq int int" => (refine eq_is (by with_reducible assumption) ?_)
    k_with "binaryOp Pow int int" => (with_reducible refine pow_row (by with_reducible assumption) (by with_reducible assumption) ?_)
    k_with "binaryOp FloorDiv int int" => (with_reducible refine div_row (by with_reducible assumption) (by with_reducible assumption) ?_)
    k_with "compareOp NotEq bool bool" => (refine ne_no (by first | with_reducible assumption | exact (eS _).trans (by with_reducible assumption) | exact (eI _).trans (by rw [hdv]; exact bne_f _)) ?_)
    k_with "compareOp Eq bool bool" => (refine eq_no (by exact (eJ _).trans (by rw [hdv]; exact bne_t _)) ?_)
    k_with "call ref" => k_dflt (ktn_call (Str.ofString "value") (valueT _ _))
    k_with "call ref" => k_dflt (ktn_call (Str.ofString "simplify") simT; (rename SOut _ _ _ => hoX); obtain ⟨gS, hS9, eS, dS⟩ := hoX; have dS2 := Fm.dep_le_size gS)
    k_with "call ref" => k_dflt (ktn_call (Str.ofString "inward") inwT; (rename InwOut _ _ _ => hoX); (first
      | ((have q9 := eI); clear q9; obtain ⟨gJ, hJ9, eJ, dJ⟩ := hoX)
      | (obtain ⟨gI, hI9, eI, dI⟩ := hoX)))
    (with_reducible show wpAny _ _ _ _ _ _)
    (try k_fold)
    k_steps
    exact end_of (by k_asm) (by k_asm) rfl (.snoc hS' hm hb hz hF hsz) (by simp) (by simp only [List.length_append, List.length_singleton]; omega) hap' hown' hol (by k_mem) (by intro p hp; simp only [List.mem_cons, List.mem_append, hp, true_or, or_true]) (by intro p hp; simp only [List.mem_cons, List.mem_append, hp, true_or, or_true])
  have hk9 : k = 0 ∨ k = 1 ∨ k = 2 ∨ k = 3 ∨ k = 4 ∨ k = 5 ∨ k = 6 ∨ k = 7 ∨ k = 8 := by
    have h1 : 0 ≤ Int.fmod n 9 := Int.fmod_nonneg_of_pos n (by decide)
    have h2 : Int.fmod n 9 < 9 := Int.fmod_lt_of_pos n (by decide)
    omega
  rcases hk9 with rfl | rfl | rfl | rfl | rfl | rfl | rfl | rfl | rfl
  case inl =>
    (with_reducible show wpAny _ _ _ _ _ _)
    (try k_fold)
    k_steps
    (rename News _ _ _ _ => lN)
    simp only [List.push_toArray] at lN
    exact mid_pre (pre := [_, _, _, _]) (by k_asm) rfl rfl lN (List.forall_mem_cons.mpr ⟨by ktn_lt, List.forall_mem_cons.mpr ⟨by ktn_lt, List.forall_mem_cons.mpr ⟨by ktn_lt, List.forall_mem_cons.mpr ⟨by ktn_lt, List.forall_mem_nil _⟩⟩⟩⟩) (.snoc (f := .at 0) (hS.mono fun p hp => List.mem_append.mpr (.inr hp)) (by k_mem) (by decide) rfl (.at (by k_mem) (by k_mem)) (by decide)) (by simp) (by simp only [List.length_append, List.length_singleton, List.length_nil] at *; omega) hap hown
  case inr.inl =>
    (with_reducible show wpAny _ _ _ _ _ _)
    (try k_fold)
    k_steps
    (rename News _ _ _ _ => lN)
    simp only [List.push_toArray] at lN
    exact mid_pre (pre := [_, _, _, _]) (by k_asm) rfl rfl lN (List.forall_mem_cons.mpr ⟨by ktn_lt, List.forall_mem_cons.mpr ⟨by ktn_lt, List.forall_mem_cons.mpr ⟨by ktn_lt, List.forall_mem_cons.mpr ⟨by ktn_lt, List.forall_mem_nil _⟩⟩⟩⟩) (.snoc (f := .at 1) (hS.mono fun p hp => List.mem_append.mpr (.inr hp)) (by k_mem) (by decide) rfl (.at (by k_mem) (by k_mem)) (by decide)) (by simp) (by simp only [List.length_append, List.length_singleton, List.length_nil] at *; omega) hap hown
  case inr.inr.inl =>
    (with_reducible show wpAny _ _ _ _ _ _)
    (try k_fold)
    k_steps
    (rename News _ _ _ _ => lN)
    simp only [List.push_toArray] at lN
    exact mid_pre (pre := [_, _, _, _]) (by k_asm) rfl rfl lN (List.forall_mem_cons.mpr ⟨by ktn_lt, List.forall_mem_cons.mpr ⟨by ktn_lt, List.forall_mem_cons.mpr ⟨by ktn_lt, List.forall_mem_cons.mpr ⟨by ktn_lt, List.forall_mem_nil _⟩⟩⟩⟩) (.snoc (f := .at 2) (hS.mono fun p hp => List.mem_append.mpr (.inr hp)) (by k_mem) (by decide) rfl (.at (by k_mem) (by k_mem)) (by decide)) (by simp) (by simp only [List.length_append, List.length_singleton, List.length_nil] at *; omega) hap hown
  case inr.inr.inr.inl =>
    have hr2 : Int.fmod r 2 = 0 ∨ Int.fmod r 2 = 1 := by
      have h1 : 0 ≤ Int.fmod r 2 := Int.fmod_nonneg_of_pos r (by decide)
      have h2 : Int.fmod r 2 < 2 := Int.fmod_lt_of_pos r (by decide)
      omega
    rcases hr2 with hr2 | hr2
    · skip
      (with_reducible show wpAny _ _ _ _ _ _)
      (try k_fold)
      k_steps
      (rename News _ _ _ _ => lN)
      simp only [List.push_toArray] at lN
      exact mid_pre (pre := [_, _, _, _, _]) (by k_asm) rfl rfl lN (List.forall_mem_cons.mpr ⟨by ktn_lt, List.forall_mem_cons.mpr ⟨by ktn_lt, List.forall_mem_cons.mpr ⟨by ktn_lt, List.forall_mem_cons.mpr ⟨by ktn_lt, List.forall_mem_cons.mpr ⟨by ktn_lt, List.forall_mem_nil _⟩⟩⟩⟩⟩) (.snoc (f := .tt) (hS.mono fun p hp => List.mem_append.mpr (.inr hp)) (by k_mem) rfl rfl (.tt (by k_mem)) (by decide)) (by simp) (by simp only [List.length_append, List.length_singleton, List.length_nil] at *; omega) hap hown
    · skip
      (with_reducible show wpAny _ _ _ _ _ _)
      (try k_fold)
      k_steps
      (rename News _ _ _ _ => lN)
      simp only [List.push_toArray] at lN
      exact mid_pre (pre := [_, _, _, _, _]) (by k_asm) rfl rfl lN (List.forall_mem_cons.mpr ⟨by ktn_lt, List.forall_mem_cons.mpr ⟨by ktn_lt, List.forall_mem_cons.mpr ⟨by ktn_lt, List.forall_mem_cons.mpr ⟨by ktn_lt, List.forall_mem_cons.mpr ⟨by ktn_lt, List.forall_mem_nil _⟩⟩⟩⟩⟩) (.snoc (f := .ff) (hS.mono fun p hp => List.mem_append.mpr (.inr hp)) (by k_mem) rfl rfl (.ff (by k_mem)) (by decide)) (by simp) (by simp only [List.length_append, List.length_singleton, List.length_nil] at *; omega) hap hown
  case inr.inr.inr.inr.inl =>
    cases hS with
    | nil => exact absurd rfl hne
    | @snoc a v b z t' u' n' f vs fs hS hm hb hz hF hsz =>
    have hz1 : 1 ≤ z := by have := Fm.size_pos f; omega
    by_cases hlt : z < 12
    · skip
      (with_reducible show wpAny _ _ _ _ _ _)
      (try k_fold)
      k_steps
      (rename News _ _ _ _ => lN)
      simp only [List.push_toArray] at lN
      exact mid_pre (pre := [_, _]) (by k_asm) rfl rfl lN (List.forall_mem_cons.mpr ⟨by ktn_lt, List.forall_mem_cons.mpr ⟨by ktn_lt, List.forall_mem_nil _⟩⟩) (.snoc (f := .no f) (hS.mono fun p hp => List.mem_append.mpr (.inr hp)) (by k_mem) (no_bits hb) (by simp only [Fm.size]; omega) (.no (by k_mem) (hF.mono fun p hp => List.mem_append.mpr (.inr hp))) (by simp only [Fm.size]; omega)) (by simp) (by simp only [List.length_append, List.length_singleton, List.length_nil] at *; omega) hap hown
    have hlt2 : ∀ y : Int, 1 ≤ y → ¬ z + y < 12 := fun y hy h => by omega
    cases hS with
    | nil =>
      (with_reducible show wpAny _ _ _ _ _ _)
      (try k_fold)
      k_steps
      (rename News _ _ _ _ => lN)
      exact mid_pre (pre := []) (by k_asm) rfl rfl lN (List.forall_mem_nil _) (.snoc (vs := []) (fs := []) .nil hm hb hz hF hsz) (by simp) (by simp only [List.length_append, List.length_singleton, List.length_nil] at *; omega) hap hown

    | @snoc a2 v2 b2 z2 t2 u2 n2 f2 vs2 fs2 hS hm2 hb2 hz2 hF2 hsz2 =>
      have hz3 : 1 ≤ z2 := by have := Fm.size_pos f2; omega
      have hlt3 := hlt2 z2 hz3
      (with_reducible show wpAny _ _ _ _ _ _)
      (try k_fold)
      k_steps
      (rename News _ _ _ _ => lN)
      exact mid_pre (pre := []) (by k_asm) rfl rfl lN (List.forall_mem_nil _) (.snoc hS hm2 hb2 hz2 hF2 hsz2) (by simp) (by simp only [List.length_append, List.length_singleton, List.length_nil] at *; omega) hap hown

  case inr.inr.inr.inr.inr.inl =>
    cases hS with
    | nil => exact absurd rfl hne
    | @snoc a v b z t' u' n' f vs fs hS hm hb hz hF hsz =>
    have hz1 : 1 ≤ z := by have := Fm.size_pos f; omega
    cases hS with
    | nil =>
      (with_reducible show wpAny _ _ _ _ _ _)
      (try k_fold)
      k_steps
      (rename News _ _ _ _ => lN)
      exact mid_pre (pre := []) (by k_asm) rfl rfl lN (List.forall_mem_nil _) (.snoc (vs := []) (fs := []) .nil hm hb hz hF hsz) (by simp) (by simp only [List.length_append, List.length_singleton, List.length_nil] at *; omega) hap hown

    | @snoc a2 v2 b2 z2 t2 u2 n2 f2 vs2 fs2 hS hm2 hb2 hz2 hF2 hsz2 =>
      have hz3 : 1 ≤ z2 := by have := Fm.size_pos f2; omega
      by_cases hlt : z + z2 < 12
      · skip
        (with_reducible show wpAny _ _ _ _ _ _)
        (try k_fold)
        k_steps
        (rename News _ _ _ _ => lN)
        simp only [List.push_toArray] at lN
        exact mid_pre (pre := [_, _, _, _]) (by k_asm) rfl rfl lN (List.forall_mem_cons.mpr ⟨by ktn_lt, List.forall_mem_cons.mpr ⟨by ktn_lt, List.forall_mem_cons.mpr ⟨by ktn_lt, List.forall_mem_cons.mpr ⟨by ktn_lt, List.forall_mem_nil _⟩⟩⟩⟩) (.snoc (f := .and f2 f) (hS.mono fun p hp => List.mem_append.mpr (.inr hp)) (by k_mem) (join_and hb2 hb) (by simp only [Fm.size]; omega) (.and (by k_mem) (hF2.mono fun p hp => List.mem_append.mpr (.inr hp)) (hF.mono fun p hp => List.mem_append.mpr (.inr hp))) (by simp only [Fm.size]; omega)) (by simp) (by simp only [List.length_append, List.length_singleton, List.length_nil] at *; omega) hap hown
      · skip
        (with_reducible show wpAny _ _ _ _ _ _)
        (try k_fold)
        k_steps
        (rename News _ _ _ _ => lN)
        exact mid_pre (pre := []) (by k_asm) rfl rfl lN (List.forall_mem_nil _) (.snoc hS hm2 hb2 hz2 hF2 hsz2) (by simp) (by simp only [List.length_append, List.length_singleton, List.length_nil] at *; omega) hap hown

  case inr.inr.inr.inr.inr.inr.inl =>
    cases hS with
    | nil => exact absurd rfl hne
    | @snoc a v b z t' u' n' f vs fs hS hm hb hz hF hsz =>
    have hz1 : 1 ≤ z := by have := Fm.size_pos f; omega
    cases hS with
    | nil =>
      (with_reducible show wpAny _ _ _ _ _ _)
      (try k_fold)
      k_steps
      (rename News _ _ _ _ => lN)
      exact mid_pre (pre := []) (by k_asm) rfl rfl lN (List.forall_mem_nil _) (.snoc (vs := []) (fs := []) .nil hm hb hz hF hsz) (by simp) (by simp only [List.length_append, List.length_singleton, List.length_nil] at *; omega) hap hown

    | @snoc a2 v2 b2 z2 t2 u2 n2 f2 vs2 fs2 hS hm2 hb2 hz2 hF2 hsz2 =>
      have hz3 : 1 ≤ z2 := by have := Fm.size_pos f2; omega
      by_cases hlt : z + z2 < 12
      · skip
        (with_reducible show wpAny _ _ _ _ _ _)
        (try k_fold)
        k_steps
        (rename News _ _ _ _ => lN)
        simp only [List.push_toArray] at lN
        exact mid_pre (pre := [_, _, _, _]) (by k_asm) rfl rfl lN (List.forall_mem_cons.mpr ⟨by ktn_lt, List.forall_mem_cons.mpr ⟨by ktn_lt, List.forall_mem_cons.mpr ⟨by ktn_lt, List.forall_mem_cons.mpr ⟨by ktn_lt, List.forall_mem_nil _⟩⟩⟩⟩) (.snoc (f := .or f2 f) (hS.mono fun p hp => List.mem_append.mpr (.inr hp)) (by k_mem) (join_or hb2 hb) (by simp only [Fm.size]; omega) (.or (by k_mem) (hF2.mono fun p hp => List.mem_append.mpr (.inr hp)) (hF.mono fun p hp => List.mem_append.mpr (.inr hp))) (by simp only [Fm.size]; omega)) (by simp) (by simp only [List.length_append, List.length_singleton, List.length_nil] at *; omega) hap hown
      · skip
        (with_reducible show wpAny _ _ _ _ _ _)
        (try k_fold)
        k_steps
        (rename News _ _ _ _ => lN)
        exact mid_pre (pre := []) (by k_asm) rfl rfl lN (List.forall_mem_nil _) (.snoc hS hm2 hb2 hz2 hF2 hsz2) (by simp) (by simp only [List.length_append, List.length_singleton, List.length_nil] at *; omega) hap hown

  case inr.inr.inr.inr.inr.inr.inr.inl =>
    cases hS with
    | nil => exact absurd rfl hne
    | @snoc a v b z t' u' n' f vs fs hS hm hb hz hF hsz =>
    have hz1 : 1 ≤ z := by have := Fm.size_pos f; omega
    cases hS with
    | nil =>
      (with_reducible show wpAny _ _ _ _ _ _)
      (try k_fold)
      k_steps
      (rename News _ _ _ _ => lN)
      exact mid_pre (pre := []) (by k_asm) rfl rfl lN (List.forall_mem_nil _) (.snoc (vs := []) (fs := []) .nil hm hb hz hF hsz) (by simp) (by simp only [List.length_append, List.length_singleton, List.length_nil] at *; omega) hap hown

    | @snoc a2 v2 b2 z2 t2 u2 n2 f2 vs2 fs2 hS hm2 hb2 hz2 hF2 hsz2 =>
      have hz3 : 1 ≤ z2 := by have := Fm.size_pos f2; omega
      by_cases hlt : z + z2 < 12
      · skip
        (with_reducible show wpAny _ _ _ _ _ _)
        (try k_fold)
        k_steps
        (rename News _ _ _ _ => lN)
        simp only [List.push_toArray] at lN
        exact mid_pre (pre := [_, _, _, _]) (by k_asm) rfl rfl lN (List.forall_mem_cons.mpr ⟨by ktn_lt, List.forall_mem_cons.mpr ⟨by ktn_lt, List.forall_mem_cons.mpr ⟨by ktn_lt, List.forall_mem_cons.mpr ⟨by ktn_lt, List.forall_mem_nil _⟩⟩⟩⟩) (.snoc (f := .imp f2 f) (hS.mono fun p hp => List.mem_append.mpr (.inr hp)) (by k_mem) (join_imp hb2 hb) (by simp only [Fm.size]; omega) (.imp (by k_mem) (hF2.mono fun p hp => List.mem_append.mpr (.inr hp)) (hF.mono fun p hp => List.mem_append.mpr (.inr hp))) (by simp only [Fm.size]; omega)) (by simp) (by simp only [List.length_append, List.length_singleton, List.length_nil] at *; omega) hap hown
      · skip
        (with_reducible show wpAny _ _ _ _ _ _)
        (try k_fold)
        k_steps
        (rename News _ _ _ _ => lN)
        exact mid_pre (pre := []) (by k_asm) rfl rfl lN (List.forall_mem_nil _) (.snoc hS hm2 hb2 hz2 hF2 hsz2) (by simp) (by simp only [List.length_append, List.length_singleton, List.length_nil] at *; omega) hap hown

  case inr.inr.inr.inr.inr.inr.inr.inr =>
    cases hS with
    | nil => exact absurd rfl hne
    | @snoc a v b z t' u' n' f vs fs hS hm hb hz hF hsz =>
    have hz1 : 1 ≤ z := by have := Fm.size_pos f; omega
    cases hS with
    | nil =>
      (with_reducible show wpAny _ _ _ _ _ _)
      (try k_fold)
      k_steps
      (rename News _ _ _ _ => lN)
      exact mid_pre (pre := []) (by k_asm) rfl rfl lN (List.forall_mem_nil _) (.snoc (vs := []) (fs := []) .nil hm hb hz hF hsz) (by simp) (by simp only [List.length_append, List.length_singleton, List.length_nil] at *; omega) hap hown

    | @snoc a2 v2 b2 z2 t2 u2 n2 f2 vs2 fs2 hS hm2 hb2 hz2 hF2 hsz2 =>
      have hz3 : 1 ≤ z2 := by have := Fm.size_pos f2; omega
      by_cases hlt : z + z2 < 12
      · skip
        (with_reducible show wpAny _ _ _ _ _ _)
        (try k_fold)
        k_steps
        (rename News _ _ _ _ => lN)
        simp only [List.push_toArray] at lN
        exact mid_pre (pre := [_, _, _, _]) (by k_asm) rfl rfl lN (List.forall_mem_cons.mpr ⟨by ktn_lt, List.forall_mem_cons.mpr ⟨by ktn_lt, List.forall_mem_cons.mpr ⟨by ktn_lt, List.forall_mem_cons.mpr ⟨by ktn_lt, List.forall_mem_nil _⟩⟩⟩⟩) (.snoc (f := .iff f2 f) (hS.mono fun p hp => List.mem_append.mpr (.inr hp)) (by k_mem) (join_iff hb2 hb) (by simp only [Fm.size]; omega) (.iff (by k_mem) (hF2.mono fun p hp => List.mem_append.mpr (.inr hp)) (hF.mono fun p hp => List.mem_append.mpr (.inr hp))) (by simp only [Fm.size]; omega)) (by simp) (by simp only [List.length_append, List.length_singleton, List.length_nil] at *; omega) hap hown
      · skip
        (with_reducible show wpAny _ _ _ _ _ _)
        (try k_fold)
        k_steps
        (rename News _ _ _ _ => lN)
        exact mid_pre (pre := []) (by k_asm) rfl rfl lN (List.forall_mem_nil _) (.snoc hS hm2 hb2 hz2 hF2 hsz2) (by simp) (by simp only [List.length_append, List.length_singleton, List.length_nil] at *; omega) hap hown)
end Mine
end
theorem PySem.Challenge.cw_ui0505_02_holds : PySem.Challenge.rw_ui0505_02.Holds :=
  Mine.t
