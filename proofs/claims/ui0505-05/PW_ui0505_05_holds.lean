import PyProof.Rows.All
import Wide.All
import OpenK.AllK
import Wide.FinOn
import PySem.Challenge.RW_ui0505_05
set_option Elab.async false
set_option maxRecDepth 100000
set_option maxHeartbeats 8000000
section
open PySem PySem.W PyProof.Rows PyProof.V PySem.Spec
namespace Mine
/-- fewer entries -/
theorem nsub {h₀ h : Heap} {L : Addr} {l l' : List (Addr × Obj)} (N : News h₀ L h l) (hs : ∀ q ∈ l', q ∈ l) : News h₀ L h l' := fun q hq => N q (hs q hq)
/-- two entries that differ somewhere have two addresses -/
theorem nne {α : Type} (f : Obj → α) {h₀ h : Heap} {L : Addr} {l : List (Addr × Obj)} (N : News h₀ L h l) {a b : Addr} {x y : Obj} (ha : (a, x) ∈ l) (hb : (b, y) ∈ l) (hf : f x ≠ f y) : @Ne Nat a b := by
  intro e
  subst e
  have h1 := (N _ ha).1
  rw [(N _ hb).1] at h1
  exact hf (congrArg f (Option.some.inj h1)).symm
/-- the ledger without one address -/
def off (a : Addr) (l : List (Addr × Obj)) : List (Addr × Obj) := l.filter fun q => !(q.1 == a)
theorem mem_off {a : Addr} {l : List (Addr × Obj)} {q : Addr × Obj} : q ∈ off a l ↔ q ∈ l ∧ q.1 ≠ a := by
  simp [off, List.mem_filter]
theorem off_ne {a : Addr} {l : List (Addr × Obj)} : ∀ q ∈ off a l, q.1 ≠ a := fun _ hq => (mem_off.mp hq).2
theorem allLt_ne {d : Addr} : ∀ {l : List (Addr × Obj)}, AllLt d l → ∀ p ∈ l, p.1 ≠ d
  | [], _, _, hp => nomatch hp
  | _ :: _, h, p, hp => by
    rcases List.mem_cons.mp hp with rfl | hp
    · exact Nat.ne_of_lt h.1
    · exact allLt_ne h.2 p hp
/-- all but one address stays -/
def Kept (d : Addr) (news news' : List (Addr × Obj)) : Prop := ∀ q ∈ news, q.1 ≠ d → q ∈ news'
theorem Kept.trans {d : Addr} {a b c : List (Addr × Obj)} (h : Kept d a b) (h' : Kept d b c) : Kept d a c := fun q hq h1 => h' q (h q hq h1) h1
theorem Kept.sub {d : Addr} {a b : List (Addr × Obj)} (h : ∀ q ∈ a, q ∈ b) : Kept d a b := fun q hq _ => h q hq
abbrev ent (w : World) (x : String) (t : Tok) (v : Value) : DictEntry := ⟨PyData.keyHash w.params (Str.ofString x), .str (Str.ofString x) t, v⟩
abbrev tupO (vs : List Value) (n : Nat) : Obj := { cls := .type "tuple", data := .seq vs.toArray n }
/-- the reader's dict -/
structure RT where
  k1 : Tok
  k2 : Tok
  k3 : Tok
  k4 : Tok
  en : Int
  u2 : Tok
abbrev rdO (w : World) (r : RT) (tl : Addr) (at_ dp : Int) (ua ud : Tok) : Obj := dictOf [ent w "_tokens" r.k1 (.ref tl), ent w "_end" r.k2 (.int r.en r.u2), ent w "_at" r.k3 (.int at_ ua), ent w "_deep" r.k4 (.int dp ud)] 4
/-- the word at a place -/
def wordAt (ws : List (Str × Int)) (i : Nat) : Str := match ws[i]? with | some x => x.1 | none => Str.ofString ""
/-- the tokens lie in the ledger -/
structure TK (news : List (Addr × Obj)) (tl : Addr) (nt : Nat) (vs : List Value) (ws : List (Str × Int)) : Prop where
  htl : (tl, listOf vs.toArray nt) ∈ news
  hlen : vs.length = ws.length
  hle : ws.length ≤ 1000
  htk : ∀ (i : Nat) (x : Str × Int), ws[i]? = some x → ∃ (a : Addr) (t u : Tok) (n : Nat), vs[i]? = some (.ref a) ∧ (a, tupO [.str x.1 t, .int x.2 u] n) ∈ news
theorem TK.mono {news news' : List (Addr × Obj)} {tl : Addr} {nt : Nat} {vs : List Value} {ws : List (Str × Int)} (T : TK news tl nt vs ws) (h : ∀ q ∈ news, q ∈ news') : TK news' tl nt vs ws :=
  ⟨h _ T.htl, T.hlen, T.hle, fun i x hx => let ⟨a, t, u, n, h1, h2⟩ := T.htk i x hx; ⟨a, t, u, n, h1, h _ h2⟩⟩
/-- the reader -/
structure RS (C : Addr) (w : World) (news : List (Addr × Obj)) (rd dd tl : Addr) (r : RT) (nt : Nat) (vs : List Value) (ws : List (Str × Int)) (i : Nat) (dp : Int) : Prop where
  hrd : (rd, instObj C dd) ∈ news
  hdd : ∃ ua ud, (dd, rdO w r tl (i : Int) dp ua ud) ∈ news
  tk : TK news tl nt vs ws
section
variable {C : Addr} {w : World} {h₀ h : Heap} {L : Addr} {news news' : List (Addr × Obj)} {rd dd tl : Addr} {r : RT} {nt : Nat} {vs : List Value} {ws : List (Str × Int)} {i : Nat} {dp : Int}
theorem list_dict : Value.type "list" ≠ Value.type "dict" := by decide
theorem tup_dict : Value.type "tuple" ≠ Value.type "dict" := by decide
theorem TK.off (T : TK news tl nt vs ws) (N : News h₀ L h news) {o : Obj} (hd : (dd, o) ∈ news) (ho : o.cls = .type "dict") : TK (off dd news) tl nt vs ws :=
  ⟨mem_off.mpr ⟨T.htl, nne Obj.cls N T.htl hd (by rw [ho]; exact list_dict)⟩, T.hlen, T.hle, fun i x hx => let ⟨a, t, u, n, h1, h2⟩ := T.htk i x hx; ⟨a, t, u, n, h1, mem_off.mpr ⟨h2, nne Obj.cls N h2 hd (by rw [ho]; exact tup_dict)⟩⟩⟩
theorem RS.cast {d : Int} (S : RS C w news rd dd tl r nt vs ws i d) (e : d = dp) : RS C w news rd dd tl r nt vs ws i dp := e ▸ S
theorem RS.mono (S : RS C w news rd dd tl r nt vs ws i dp) (k : ∀ q ∈ news, q ∈ news') : RS C w news' rd dd tl r nt vs ws i dp := let ⟨ua, ud, h⟩ := S.hdd; ⟨k _ S.hrd, ⟨ua, ud, k _ h⟩, S.tk.mono k⟩
theorem RS.front {o : Obj} (N : News h₀ L h news) (hd : (dd, o) ∈ news) : News h₀ L h ((dd, o) :: Mine.off dd news) := nsub N fun q hq => by
  rcases List.mem_cons.mp hq with rfl | hq
  · exact hd
  · exact (mem_off.mp hq).1
theorem RS.keep (S : RS C w news rd dd tl r nt vs ws i dp) (N : News h₀ L h news) {j : Nat} {dp' : Int} {ua ud : Tok} (K : Kept dd news news') (hd : (dd, rdO w r tl (j : Int) dp' ua ud) ∈ news') : RS C w news' rd dd tl r nt vs ws j dp' := by
  obtain ⟨ua0, ud0, hd0⟩ := S.hdd
  have T' := S.tk.off N hd0 rfl
  refine ⟨K _ S.hrd (nne Obj.cls N S.hrd hd0 (fun e => by cases e)), ⟨ua, ud, hd⟩, T'.mono fun q hq => K q (mem_off.mp hq).1 (mem_off.mp hq).2⟩
end
section
variable {prog : Program} {w : World} {A : Around} {E : Value → Shared → Prop} {s : Shared} {h₀ : Heap} {L : Addr} {news : List (Addr × Obj)} {Q : Value → Shared → Prop}
theorem newsList {a : Addr} {vs : List Value} {n : Nat} (N : News h₀ L s.heap news) (hm : (a, listOf vs.toArray n) ∈ news) : s.heap.IsList a vs.toArray := ⟨_, (N _ hm).1, rfl, n, rfl⟩
theorem lenL {a : Addr} {vs : List Value} {n k : Nat} (N : News h₀ L s.heap news) (hm : (a, listOf vs.toArray n) ∈ news) (hk : vs.length = k) (hfit : k ≤ 1000)
    (h : Q (.int (k : Int) (s.toks + 1)) { s with toks := s.toks + 1 + 1 }) : wpAny (model prog w) A (call (.builtin "len") [.ref a]) Q E s := by
  have e : (vs.toArray.size : Int) = (k : Int) := by rw [List.size_toArray, hk]
  exact PyProof.Rows.len_list (newsList N hm) (by rw [e]; omega) (by rw [e]; exact h)
theorem itemL {value slice : PySem.Expr} {a : Addr} {vs : List Value} {n i : Nat} {k : Int} {u : Tok} {x : Value} (N : News h₀ L s.heap news) (hx : vs[i]? = some x) (hm : (a, listOf vs.toArray n) ∈ news) (hk : k = (i : Int)) (hi : i ≤ 1000) (h : Q x s)
    (hs : subscripted slice false (.ref a) (.int k u) = operate [.ref a, .int k u] (getItem (.ref a) (.int k u))) :
    wpAny (model prog w) A (subscriptTail value slice (.ref a) (.int k u)) Q E s := by
  subst hk
  exact tail_any (newsList N hm).typeIs slot_list_getitem.lookup (wpAny_getItem_list (newsList N hm) (by omega) (by omega) (by simpa using hx) h) hs
theorem itemT {t : Addr} {vs : List Value} {n j : Nat} {k : Int} {u : Tok} {x : Value} {value slice : PySem.Expr} (N : News h₀ L s.heap news) (hm : (t, tupO vs n) ∈ news)
    (hlo : -(2 ^ 63) ≤ k) (hhi : k < 2 ^ 63) (hj : seqIndex? k vs.length = some j) (hx : vs[j]? = some x) (h : Q x s)
    (hs : subscripted slice false (.ref t) (.int k u) = operate [.ref t, .int k u] (getItem (.ref t) (.int k u))) (hg : ∀ r, letTemporaryGo value (.ref t) r = pure ()) :
    wpAny (model prog w) A (subscriptTail value slice (.ref t) (.int k u)) Q E s :=
  item_tupleL ⟨_, N.get hm, rfl, _, rfl⟩ hlo hhi hj hx h hs hg
theorem appendL {m : Str → Option Value} {a : Addr} {vs : List Value} {n : Nat} {x : Value} {news' : List (Addr × Obj)} (F : Fr h₀ L s.heap m) (N : News h₀ L s.heap news) (U : Upd a (listOf vs.toArray n) (listOf (vs ++ [x]).toArray (n + 1)) news news') (hsz : vs.length ≤ 1000)
    (h : ∀ h', Fr h₀ L h' m → News h₀ L h' news' → Q .none { s with heap := h' }) : wpAny (model prog w) A (call (.builtin "list.append") [.ref a, x]) Q E s := by
  refine append_K (its := vs.toArray) F N (by simpa using U) h ?_
  rw [List.size_toArray, sizeLine_eq]; omega
end
end Mine
end
section
open PySem PySem.W PyProof.Rows PyProof.V PySem.Spec
namespace Mine
/-- the formulas that are read -/
inductive Sf
  | atom
  | atomx
  | no (f : Sf)
  | all (f : Sf)
  | some (f : Sf)
  | par (f : Sf)
  | imp (f g : Sf)
namespace Sf
/-- the words that it is written by -/
def words : Sf → List Str
  | atom => [Str.ofString "P"]
  | atomx => [Str.ofString "P", Str.ofString "(", Str.ofString "x", Str.ofString ")"]
  | no f => Str.ofString "~" :: f.words
  | all f => Str.ofString "all" :: Str.ofString "x" :: Str.ofString "." :: f.words
  | some f => Str.ofString "some" :: Str.ofString "x" :: Str.ofString "." :: f.words
  | par f => Str.ofString "(" :: (f.words ++ [Str.ofString ")"])
  | imp f g => f.words ++ Str.ofString "->" :: g.words
/-- how deep the reader goes -/
def deep : Sf → Nat
  | atom => 1
  | atomx => 2
  | no f => f.deep + 1
  | all f => f.deep + 1
  | some f => f.deep + 1
  | par f => f.deep + 1
  | imp f g => max f.deep g.deep
def size : Sf → Nat
  | atom => 1
  | atomx => 1
  | no f => f.size + 3
  | all f => f.size + 16
  | some f => f.size + 16
  | par f => f.size + 16
  | imp f g => max f.size g.size
theorem deep_pos : ∀ f : Sf, 1 ≤ f.deep := by intro f; induction f <;> simp [deep] <;> omega
theorem len_pos : ∀ f : Sf, 1 ≤ f.words.length := by intro f; cases f <;> simp [words] <;> omega
end Sf
/-- the ledger bears it -/
inductive FIs (news : List (Addr × Obj)) : Value → Sf → Prop
  | atom {a b : Addr} {t u : Tok} {n k : Nat} : (a, tupO [.str (Str.ofString "atom") t, .str (Str.ofString "P") u, .ref b] n) ∈ news → (b, tupO [] k) ∈ news → FIs news (.ref a) .atom
  | atomx {a b c : Addr} {t u t1 t2 : Tok} {n k k2 : Nat} : (a, tupO [.str (Str.ofString "atom") t, .str (Str.ofString "P") u, .ref b] n) ∈ news → (b, tupO [.ref c] k) ∈ news → (c, tupO [.str (Str.ofString "var") t1, .str (Str.ofString "x") t2] k2) ∈ news → FIs news (.ref a) .atomx
  | no {a : Addr} {t : Tok} {n : Nat} {v : Value} {f : Sf} : (a, tupO [.str (Str.ofString "not") t, v] n) ∈ news → FIs news v f → FIs news (.ref a) (.no f)
  | all {a : Addr} {t u : Tok} {n : Nat} {v : Value} {f : Sf} : (a, tupO [.str (Str.ofString "all") t, .str (Str.ofString "x") u, v] n) ∈ news → FIs news v f → FIs news (.ref a) (.all f)
  | some {a : Addr} {t u : Tok} {n : Nat} {v : Value} {f : Sf} : (a, tupO [.str (Str.ofString "some") t, .str (Str.ofString "x") u, v] n) ∈ news → FIs news v f → FIs news (.ref a) (.some f)
  | par {v : Value} {f : Sf} : FIs news v f → FIs news v (.par f)
  | imp {a : Addr} {t : Tok} {n : Nat} {v u : Value} {f g : Sf} : (a, tupO [.str (Str.ofString "implies") t, v, u] n) ∈ news → FIs news v f → FIs news u g → FIs news (.ref a) (.imp f g)
theorem FIs.keep {d : Addr} {o : Obj} {h₀ h : Heap} {L : Addr} {news news' : List (Addr × Obj)} {v : Value} {f : Sf} (x : FIs news v f) (N : News h₀ L h news) (hd : (d, o) ∈ news) (ho : o.cls = .type "dict") (K : Kept d news news') : FIs news' v f := by
  have k : ∀ {a : Addr} {vs : List Value} {n : Nat}, (a, tupO vs n) ∈ news → (a, tupO vs n) ∈ news' := fun hm => K _ hm (nne Obj.cls N hm hd (by rw [ho]; exact tup_dict))
  induction x with
  | atom h1 h2 => exact .atom (k h1) (k h2)
  | atomx h1 h2 h3 => exact .atomx (k h1) (k h2) (k h3)
  | no h1 _ ih => exact .no (k h1) ih
  | all h1 _ ih => exact .all (k h1) ih
  | some h1 _ ih => exact .some (k h1) ih
  | par _ ih => exact .par ih
  | imp h1 _ _ ih ih2 => exact .imp (k h1) ih ih2
theorem FIs.mono {news news' : List (Addr × Obj)} {v : Value} {f : Sf} (x : FIs news v f) (k : ∀ q ∈ news, q ∈ news') : FIs news' v f := by
  induction x with
  | atom h1 h2 => exact .atom (k _ h1) (k _ h2)
  | atomx h1 h2 h3 => exact .atomx (k _ h1) (k _ h2) (k _ h3)
  | no h1 _ ih => exact .no (k _ h1) ih
  | all h1 _ ih => exact .all (k _ h1) ih
  | some h1 _ ih => exact .some (k _ h1) ih
  | par _ ih => exact .par ih
  | imp h1 _ _ ih ih2 => exact .imp (k _ h1) ih ih2
/-- the words stand from this place on -/
def At (ws : List (Str × Int)) (i : Nat) (xs : List Str) : Prop := ∀ j x, xs[j]? = some x → wordAt ws (i + j) = x
theorem At.head {ws : List (Str × Int)} {i : Nat} {x : Str} {xs : List Str} (h : At ws i (x :: xs)) : wordAt ws i = x := h 0 x rfl
theorem At.tail {ws : List (Str × Int)} {i : Nat} {x : Str} {xs : List Str} (h : At ws i (x :: xs)) : At ws (i + 1) xs := fun j y hy => by
  have := h (j + 1) y (by simpa using hy)
  rwa [show i + 1 + j = i + (j + 1) by omega]
theorem At.left {ws : List (Str × Int)} {i : Nat} {xs ys : List Str} (h : At ws i (xs ++ ys)) : At ws i xs := fun j y hy => h j y (by
  rw [List.getElem?_append_left (List.getElem?_eq_some_iff.mp hy).1]; exact hy)
theorem At.right {ws : List (Str × Int)} {i : Nat} {xs ys : List Str} (h : At ws i (xs ++ ys)) : At ws (i + xs.length) ys := fun j y hy => by
  have := h (xs.length + j) y (by rw [List.getElem?_append_right (by omega)]; simpa using hy)
  rwa [show i + xs.length + j = i + (xs.length + j) by omega]
/-- letters joined by implications -/
def chain : Nat → Sf
  | 0 => .atom
  | n + 1 => .imp .atom (chain n)
theorem chain_len : ∀ n, (chain n).words.length = 2 * n + 1
  | 0 => rfl
  | n + 1 => by simp [chain, Sf.words, chain_len n]; omega
theorem chain_deep : ∀ n, (chain n).deep = 1
  | 0 => rfl
  | n + 1 => by simp [chain, Sf.deep, chain_deep n]
theorem chain_size : ∀ n, (chain n).size = 1
  | 0 => rfl
  | n + 1 => by simp [chain, Sf.size, chain_size n]
theorem chain_P {ws : List (Str × Int)} : ∀ {n i j : Nat}, At ws i (chain n).words → j ≤ n → At ws (i + 2 * j) (Sf.atom).words
  | 0, i, j, h, hj => by
    have : j = 0 := by omega
    subst this
    exact h
  | n + 1, i, 0, h, _ => At.left (xs := [Str.ofString "P"]) h
  | n + 1, i, j + 1, h, hj => by
    have h2 : At ws (i + 1 + 1) (chain n).words := (At.right (xs := [Str.ofString "P"]) h).tail
    have := chain_P h2 (j := j) (by omega)
    rwa [show i + 1 + 1 + 2 * j = i + 2 * (j + 1) by omega] at this
theorem chain_I {ws : List (Str × Int)} : ∀ {n i j : Nat}, At ws i (chain n).words → j < n → wordAt ws (i + 2 * j + 1) = Str.ofString "->"
  | 0, i, j, _, hj => absurd hj (by omega)
  | n + 1, i, 0, h, _ => (At.right (xs := [Str.ofString "P"]) h).head
  | n + 1, i, j + 1, h, hj => by
    have h2 : At ws (i + 1 + 1) (chain n).words := (At.right (xs := [Str.ofString "P"]) h).tail
    have := chain_I h2 (j := j) (by omega)
    rwa [show i + 1 + 1 + 2 * j + 1 = i + 2 * (j + 1) + 1 by omega] at this
/-- what a def that reads a formula promises -/
def Reads1 (prog : Program) (K : Params → Frag) (C fa : Addr) (w : World) (p : Program) (loose : List Str) (mean : ExcName → Option Value) (mg mb : Str → Option Value) (f : Sf) (ex lim : Nat) (stop : Str → Prop) : Prop :=
    ∀ (dp un : Nat) (gd : Option (List Code)) (cn : Str) (cs : Scope) (a : Addr) (ccd : Value) (cl : List (Str × Addr)) (outer : List Env) (A₀ : Around) (base h₀ : Heap) (L : Addr) (m : Str → Option Value) (news : List (Addr × Obj)) (s : Shared) (rd dd tl : Addr) (r : RT) (nt : Nat) (vs : List Value) (ws : List (Str × Int)) (i : Nat) (dq : Nat) (x : Str) (Q E : Value → Shared → Prop),
      Below A₀ base outer h₀ → Fr h₀ L s.heap m → (K w.params).In h₀ → News h₀ L s.heap news → Top p loose mean mg mb h₀ → cs.kind = .function → dp + f.size + ex + 60 < recursionLimit → un + 4 * f.size + 3 * ex + 400 < cLine →
      RS C w news rd dd tl r nt vs ws i (dq : Int) → At ws i f.words → wordAt ws (i + f.words.length) = x → stop x → i + f.words.length ≤ 800 → dq + f.deep ≤ lim →
      (∀ h' tk' v news', Fr h₀ L h' m → News h₀ L h' news' → Kept dd news news' → RS C w news' rd dd tl r nt vs ws (i + f.words.length) (dq : Int) → FIs news' v f → Q v { s with heap := h', toks := tk' }) →
      wpAny (model prog w) (ktrTop dp un gd cn cs L a ccd cl outer) (call (.ref fa) [.ref rd]) Q E s
end Mine
end
section
open PySem PySem.W PyProof.Rows PyProof.V PySem.Spec
namespace Mine
section
variable {prog : Program} {w : World} {A : Around} {E : Value → Shared → Prop} {s : Shared} {Q : Value → Shared → Prop}
/-- the sign at a place of a text -/
theorem textAt {value slice : PySem.Expr} {x : Str} {i c : Nat} {k : Int} {t u : Tok} (hc : x.cps[i]? = some c) (hk : k = (i : Int)) (hi : i ≤ 100000) (h : Q (.str ⟨#[c]⟩ s.toks) { s with toks := s.toks + 1 })
    (hs : subscripted slice false (.str x t) (.int k u) = operate [.str x t, .int k u] (getItem (.str x t) (.int k u))) (ht : ∀ r, letTemporaryGo value (.str x t) r = pure ()) :
    wpAny (model prog w) A (subscriptTail value slice (.str x t) (.int k u)) Q E s := by
  subst hk
  have hl : i < x.length := (Array.getElem?_eq_some_iff.mp hc).1
  have e : Txt.item x (i : Int) = ⟨#[c]⟩ := PyProof.Rows.item_meets (by omega) (by simpa using hc)
  refine item_str (fitsSsize_of (N := 9223372036854775808) (by omega) (by omega) (Int.le_refl _)) (by omega) (by omega) (fun _ => ?_) hs ht
  rw [e]
  exact h
/-- a text's start from a place on -/
theorem startsAt {x y : Str} {i : Int} {t u v : Tok} {b : Bool} (hb : Txt.startswith3 x y i = b) (h : Q (.bool b) s) : wpAny (model prog w) A (call (.builtin "str.startswith") [.str x t, .str y u, .int i v]) Q E s :=
  SC.startswith3 (by rw [hb]; exact h)
end
section
variable {prog : Program} {w : World} {A : Around} {E : Value → Shared → Prop} {env : Env} {test : PySem.Expr} {body orelse : List Stmt} {Q : Flow → Shared → Prop}
/-- behind a turn of a while -/
def WEnd (I : Nat → Shared → Prop) (Q : Flow → Shared → Prop) (n : Nat) (f : Flow) (s : Shared) : Prop :=
  match f with
  | .next => ∃ m, m < n ∧ I m s
  | .cont => ∃ m, m < n ∧ I m s
  | .brk => Q .next s
  | .ret v => Q (.ret v) s
/-- a while by a measure -/
theorem while_by (I : Nat → Shared → Prop) (hE : PassesOwn (model prog w) A env E)
    (turn : ∀ n s, I n s → wpAny (model prog w) A (isTrue test env (eval test env)) (fun b s₂ => WhlIf b (wpAny (model prog w) A (execs body env) (WEnd I Q n) E s₂) (wpAny (model prog w) A (execs orelse env) Q E s₂)) E s)
    (k n : Nat) : ∀ s, I n s → WhlRest prog w A E env test body orelse Q k s := by
  induction n using Nat.strongRecOn with
  | ind n ih =>
    intro s hI
    refine whl_turn (k := k) hE (wpAny_mono (turn n s hI) (fun b s₂ h₂ => ?_) fun _ _ e => e)
    cases b with
    | false => exact WhlIf.no rfl (by unfold WhlIf at h₂; rw [if_neg Bool.false_ne_true] at h₂; exact h₂)
    | true =>
      refine WhlIf.yes rfl ?_
      unfold WhlIf at h₂
      rw [if_pos rfl] at h₂
      refine wpAny_mono h₂ (fun f s₃ h₃ => ?_) fun _ _ e => e
      cases f with
      | next => obtain ⟨m, hm, hI'⟩ := h₃; exact ih m hm s₃ hI'
      | cont => obtain ⟨m, hm, hI'⟩ := h₃; exact ih m hm s₃ hI'
      | brk => exact h₃
      | ret v => exact h₃
end
end Mine
end
section
open PySem PySem.W PyProof.Rows PyProof.V PySem.Spec
namespace Mine
/-- the map with one name told otherwise -/
abbrev upm (x : Str) (ov : Option Value) (m : Str → Option Value) : Str → Option Value := fun y => if y = x then ov else m y
theorem upm_upm (x : Str) (a b : Option Value) (m : Str → Option Value) : upm x a (upm x b m) = upm x a m := by
  funext y
  by_cases h : y = x <;> simp [upm, h]
theorem upm_self (x : Str) (m : Str → Option Value) : upm x (m x) m = m := by
  funext y
  by_cases h : y = x <;> simp [upm, h]
theorem frc {h₀ : Heap} {L : Addr} {h : Heap} {m m' : Str → Option Value} (F : Fr h₀ L h m) (e : ∀ y, m y = m' y) : Fr h₀ L h m' := (funext e : m = m') ▸ F
/-- a turn that leaves all as it was -/
def SameEnd (h₀ : Heap) (L : Addr) (x : Str) (m₀ : Str → Option Value) (news : List (Addr × Obj)) (s : Shared) (f : Flow) (s' : Shared) : Prop :=
  f = .next ∧ ∃ h' tk' ov, s' = { s with heap := h', toks := tk' } ∧ Fr h₀ L h' (upm x ov m₀) ∧ News h₀ L h' news
def BrkEnd (Q : Flow → Shared → Prop) (f : Flow) (s' : Shared) : Prop := f = .brk ∧ Q .next s'
section
variable {prog : Program} {w : World} {A : Around} {E : Value → Shared → Prop} {s : Shared} {env : Env} {h₀ : Heap} {x : Str} {body : List Stmt} {Q : Flow → Shared → Prop}
theorem sameEnd {L : Addr} {m₀ : Str → Option Value} {news : List (Addr × Obj)} {h' : Heap} {tk : Nat} {ov : Option Value} (F : Fr h₀ L h' (upm x ov m₀)) (N : News h₀ L h' news) : SameEnd h₀ L x m₀ news s .next { s with heap := h', toks := tk } := ⟨rfl, h', tk, ov, rfl, F, N⟩
/-- a loop over a list of the top that ends by a break at its k-th item -/
theorem brk_loop {l : Addr} {vs : List Value} {m₀ : Str → Option Value} {news : List (Addr × Obj)} (k : Nat) (hh : A.handled = none) (hl : h₀.IsList l vs.toArray) (hk : k < vs.length) (F : Fr h₀ env.locals s.heap m₀) (N : News h₀ env.locals s.heap news)
    (turn : ∀ (i : Nat) (v : Value) h tk news', i < k → vs[i]? = some v → Fr h₀ env.locals h (upm x (some v) m₀) → News h₀ env.locals h news' → (∀ q ∈ news, q ∈ news') → wpAny (model prog w) A (execs body env) (SameEnd h₀ env.locals x m₀ news' { s with heap := h, toks := tk }) E { s with heap := h, toks := tk })
    (last : ∀ (v : Value) h tk, vs[k]? = some v → Fr h₀ env.locals h (upm x (some v) m₀) → News h₀ env.locals h news → wpAny (model prog w) A (execs body env) (BrkEnd Q) E { s with heap := h, toks := tk }) :
    wpAny (model prog w) A (pyIter (.ref l)) (fun it s₂ => LoopAtV prog w A h₀ env x body Q E it s₂) E s := by
  have hls : s.heap.IsList l vs.toArray := hl.at fun o e => F.keep l o e
  obtain ⟨ol, hol, _⟩ := id hl
  have hlt : l < h₀.objs.size := Heap.lt_size hol
  have hne : l ≠ s.heap.objs.size := Nat.ne_of_lt (Nat.lt_trans (Nat.lt_of_lt_of_le hlt F.above) F.ns.lt)
  refine wpAny_pyIter_list hls ?_
  have W := Walks.list (prog := prog) (w := w) hh s.heap.objs.size l hne vs.toArray
  have hlen : vs.toArray.size = vs.length := by simp
  rw [hlen] at W
  let J' : Nat → (Str → Option Value) → List (Addr × Obj) → Prop := fun i m₁ news₁ => news₁ = news ∧ i ≤ k ∧ ∃ ov, m₁ = upm x ov m₀
  refine ⟨_, _, _, vs.length, _, _, m₀, news, J', rfl, W, ?_, ?_, ?_, ⟨⟨_, Heap.get?_push_size _ rfl, rfl, rfl⟩, hls.at fun o e => Heap.get?_push_of_some _ e⟩, F.push _, (fun p hp => ⟨Heap.get?_push_of_some _ (N p hp).1, (N p hp).2⟩), ⟨rfl, Nat.zero_le _, m₀ x, (upm_self x m₀).symm⟩, ?_, ?_⟩
  · intro hm
    rcases List.mem_cons.mp hm with e | hm
    · exact absurd F.ns.lt (e ▸ Nat.lt_irrefl _)
    · exact absurd (Nat.lt_of_lt_of_le hlt F.above) ((List.mem_singleton.mp hm) ▸ Nat.lt_irrefl _)
  · intro b hb
    rw [List.mem_singleton.mp hb]
    exact next_is_new F
  · intro p hp hI
    exact absurd (Heap.lt_size (N p hp).1) ((List.mem_singleton.mp hI) ▸ Nat.lt_irrefl _)
  · rintro i v m₁ news₁ s₁ own ⟨hh', tk', rfl⟩ hin hP ⟨rfl, hik, ov, rfl⟩ hoff _ _ _ _ F₁ N₁
    have hP' : vs[i]? = some v := by simpa using hP
    have e : (fun y => if y = x then some v else upm x ov m₀ y) = upm x (some v) m₀ := upm_upm x (some v) ov m₀
    rw [e] at F₁
    by_cases hlt2 : i < k
    · refine wpAny_mono (turn i v hh' tk' _ hlt2 hP' F₁ N₁ (fun q hq => List.mem_append_right _ hq)) (fun f s₂ p => ?_) fun _ _ e => e
      obtain ⟨rfl, h', tk2, ov', rfl, F', N'⟩ := p
      exact .next ⟨rfl, h', tk2, upm x ov' m₀, news₁, rfl, F', N', hoff, rfl, by omega, ov', rfl⟩
    · have hik2 : i = k := by omega
      subst hik2
      refine wpAny_mono (last v hh' tk' hP' F₁ (fun q hq => N₁ q (List.mem_append_right _ hq))) (fun f s₂ p => ?_) fun _ _ e => e
      obtain ⟨rfl, p⟩ := p
      exact .brk p
  · rintro h' tk m' news' F' N' _ ⟨_, hJ, _⟩
    exact absurd hJ (by omega)
end
end Mine
end
section
open PySem PySem.W PyProof.Rows PyProof.V PySem.Spec
namespace Mine
/-- the sign at a place -/
def SignAt (x : Str) (i : Nat) (y : Str) : Prop := ∃ c, x.cps[i]? = some c ∧ y = ⟨#[c]⟩
/-- how a text falls into words -/
inductive Lex (x : Str) : Nat → List (Str × Int) → Prop
  | done {i : Nat} : x.length = i → Lex x i []
  | space {i : Nat} {ws : List (Str × Int)} : SignAt x i (Str.ofString " ") → Lex x (i + 1) ws → Lex x i ws
  | word {i : Nat} {ws : List (Str × Int)} : SignAt x i (Str.ofString "P") → (x.length = i + 1 ∨ SignAt x (i + 1) (Str.ofString " ")) → Lex x (i + 1) ws → Lex x i ((Str.ofString "P", (i : Int)) :: ws)
  | tilde {i : Nat} {ws : List (Str × Int)} : SignAt x i (Str.ofString "~") → Lex x (i + 1) ws → Lex x i ((Str.ofString "~", (i : Int)) :: ws)
  | arrow {i : Nat} {ws : List (Str × Int)} : SignAt x i (Str.ofString "-") → SignAt x (i + 1) (Str.ofString ">") → Lex x (i + 2) ws → Lex x i ((Str.ofString "->", (i : Int)) :: ws)
theorem SignAt.lt {x : Str} {i : Nat} {y : Str} (h : SignAt x i y) : i < x.length := let ⟨_, hc, _⟩ := h; (Array.getElem?_eq_some_iff.mp hc).1
def SignI (x : Str) (k : Int) (y : Str) : Prop := 0 ≤ k ∧ k ≤ 100000 ∧ SignAt x k.toNat y
theorem signAt {prog : Program} {w : World} {A : Around} {E : Value → Shared → Prop} {s : Shared} {Q : Value → Shared → Prop} {value slice : PySem.Expr} {x y : Str} {k : Int} {t u : Tok} (hc : SignI x k y) (h : Q (.str y s.toks) { s with toks := s.toks + 1 })
    (hs : subscripted slice false (.str x t) (.int k u) = operate [.str x t, .int k u] (getItem (.str x t) (.int k u))) (ht : ∀ r, letTemporaryGo value (.str x t) r = pure ()) :
    wpAny (model prog w) A (subscriptTail value slice (.str x t) (.int k u)) Q E s := by
  obtain ⟨h0, h1, c, hc, rfl⟩ := hc
  exact textAt hc (by omega) (by omega) h hs ht
theorem mapEq {m m' : Str → Option Value} (ns : List Str) (h1 : ∀ z ∈ ns, m z = m' z) (h2 : ∀ y, (∀ z ∈ ns, y ≠ z) → m y = m' y) : ∀ y, m y = m' y := by
  intro y
  by_cases h : y ∈ ns
  · exact h1 y h
  · exact h2 y fun z hz e => h (e ▸ hz)
/-- the walk halts here -/
def Halt (P : Prop) : Prop := P
theorem halt {P : Prop} (h : Halt P) : P := h
/-- the words read so far lie in the ledger -/
structure TKs (rest : List (Addr × Obj)) (vs : List Value) (ws : List (Str × Int)) : Prop where
  hlen : vs.length = ws.length
  htk : ∀ (i : Nat) (x : Str × Int), ws[i]? = some x → ∃ (a : Addr) (t u : Tok) (n : Nat), vs[i]? = some (.ref a) ∧ (a, tupO [.str x.1 t, .int x.2 u] n) ∈ rest
theorem TKs.add {rest : List (Addr × Obj)} {vs : List Value} {ws : List (Str × Int)} (T : TKs rest vs ws) {a : Addr} {y : Str} {k : Int} {t u : Tok} {n : Nat} : TKs ((a, tupO [.str y t, .int k u] n) :: rest) (vs ++ [.ref a]) (ws ++ [(y, k)]) := by
  refine ⟨by simp [T.hlen], fun i x hx => ?_⟩
  by_cases hi : i < ws.length
  · rw [List.getElem?_append_left hi] at hx
    obtain ⟨a', t', u', n', h1, h2⟩ := T.htk i x hx
    exact ⟨a', t', u', n', by rw [List.getElem?_append_left (by rw [T.hlen]; exact hi)]; exact h1, List.mem_cons_of_mem _ h2⟩
  · rw [List.getElem?_append_right (by omega)] at hx
    have h0 : i - ws.length = 0 := by
      have := (List.getElem?_eq_some_iff.mp hx).1
      simp at this
      omega
    rw [h0] at hx
    simp at hx
    subst hx
    refine ⟨a, t, u, n, ?_, List.mem_cons_self⟩
    rw [List.getElem?_append_right (by rw [T.hlen]; omega), T.hlen, h0]
    rfl
theorem upm3 {m : Str → Option Value} {a b c : Str} {u v z : Value} (h1 : m a = some u) (h2 : m b = some v) (h3 : m c = some z) : ∀ y, m y = upm a (some u) (upm b (some v) (upm c (some z) m)) y := by
  intro y
  by_cases e1 : y = a
  · subst e1; simp [upm, h1]
  · by_cases e2 : y = b
    · subst e2; simp [upm, e1, h2]
    · by_cases e3 : y = c
      · subst e3; simp [upm, e1, e2, h3]
      · simp [upm, e1, e2, e3]
/-- between two turns of tokens -/
def TInv (h₀ : Heap) (L o : Addr) (x : Str) (t : Tok) (ws : List (Str × Int)) (news : List (Addr × Obj)) (s : Shared) (n : Nat) (s' : Shared) : Prop :=
  ∃ (h : Heap) (tk : Nat) (vs : List Value) (nt i : Nat) (rest : List (Addr × Obj)) (m : Str → Option Value) (d ws' : List (Str × Int)),
    s' = { s with heap := h, toks := tk } ∧ Fr h₀ L h m ∧ (∃ ti, m (Str.ofString "i") = some (.int (i : Int) ti)) ∧ m (Str.ofString "out") = some (.ref o) ∧ m (Str.ofString "text") = some (.str x t) ∧ News h₀ L h ((o, listOf vs.toArray nt) :: rest) ∧ (∀ q ∈ rest, q.1 ≠ o) ∧ (∀ q ∈ news, q ∈ rest) ∧ Lex x i ws' ∧ TKs rest vs d ∧ ws = d ++ ws' ∧ n + i = x.length
end Mine
end
section
open PySem PySem.W PyProof.Rows PyProof.V PySem.Spec
namespace Mine
open PyProof in
theorem slice1 {x y : Str} {k : Int} (h : SignI x k y) : Txt.slice x (some k) (some (k + 1)) = y := by
  obtain ⟨h0, h1, c, hc, rfl⟩ := h
  have hl : k.toNat < x.length := (Array.getElem?_eq_some_iff.mp hc).1
  have e : Builtin.Str.strSliceIndices (some k) (some (k + 1)) 1 x.length = [k.toNat] := by
    unfold Builtin.Str.strSliceIndices sliceRange
    simp only [show (1 : Int) > 0 by decide, if_true]
    rw [if_neg (show ¬ k < 0 by omega), if_neg (show ¬ k + 1 < 0 by omega)]
    have e1 : max 0 (min k (x.length : Int)) = k := by omega
    have e2 : max 0 (min (k + 1) (x.length : Int)) = k + 1 := by omega
    rw [e1, e2, if_pos (show k < k + 1 by omega)]
    have e3 : ((k + 1 - k + 1 - 1) / 1 : Int) = 1 := by rw [Int.ediv_one]; omega
    rw [e3]
    simp [List.range_succ]
  unfold Txt.slice
  rw [e]
  split
  · rename_i h2
    simp at h2
    have hx : x.cps.size = 1 := h2.symm
    have hk0 : k.toNat = 0 := by
      have : k.toNat < x.cps.size := hl
      omega
    rw [hk0] at hc
    rcases x with ⟨⟨l⟩⟩
    simp at hx hc
    match l, hx, hc with
    | [a], _, hc => simp at hc; rw [hc]
  · simp [hc]
open PyProof in
theorem starts_no {x y : Str} {i : Nat} {c c' : Nat} (hc : x.cps[i]? = some c) (hy : y.cps[0]? = some c') (hne : c ≠ c') : Txt.startswith3 x y (i : Int) = false := by
  unfold Txt.startswith3
  have e : fromIndex x.length (i : Int) = i := by
    unfold fromIndex
    rw [if_neg (by omega)]
    omega
  rw [e]
  unfold Builtin.Str.subAt
  refine Bool.and_eq_false_imp.mpr fun _ => beq_eq_false_iff_ne.mpr fun h => hne ?_
  have h2 := congrArg (fun (z : Array Nat) => z[0]?) h
  simp only [Array.getElem?_extract] at h2
  have hyl : 0 < y.length := (Array.getElem?_eq_some_iff.mp hy).1
  have hxl : i < x.cps.size := (Array.getElem?_eq_some_iff.mp hc).1
  rw [hy] at h2
  split at h2
  · simp [hc] at h2; exact h2
  · cases h2
open PyProof in
theorem starts_yes {x y : Str} {i : Nat} (h : ∀ j, j < y.length → x.cps[i + j]? = y.cps[j]?) (hp : 0 < y.length) : Txt.startswith3 x y (i : Int) = true := by
  unfold Txt.startswith3
  have e : fromIndex x.length (i : Int) = i := by
    unfold fromIndex
    rw [if_neg (by omega)]
    omega
  rw [e]
  unfold Builtin.Str.subAt
  have hl : i + y.length ≤ x.length := by
    have h1 := h (y.length - 1) (by omega)
    have h2 : y.length - 1 < y.cps.size := by show _ < y.length; omega
    rw [Array.getElem?_eq_getElem h2] at h1
    have h3 : i + (y.length - 1) < x.length := (Array.getElem?_eq_some_iff.mp h1).1
    omega
  refine Bool.and_eq_true_iff.mpr ⟨decide_eq_true hl, beq_iff_eq.mpr ?_⟩
  apply Array.ext_getElem?
  intro j
  rw [Array.getElem?_extract]
  have hx : i + y.length ≤ x.cps.size := hl
  split
  · rename_i h1
    exact h j (by omega)
  · rename_i h1
    exact (Array.getElem?_eq_none (by show y.length ≤ j; omega)).symm
open PyProof in
theorem starts_tilde {x : Str} {i : Nat} (h : SignAt x i (Str.ofString "~")) : Txt.startswith3 x (Str.ofString "<->") (i : Int) = false ∧ Txt.startswith3 x (Str.ofString "->") (i : Int) = false ∧ Txt.startswith3 x (Str.ofString "~") (i : Int) = true := by
  obtain ⟨c, hc, e⟩ := h
  have hc' : c = 126 := by
    have : (Str.ofString "~") = (⟨#[126]⟩ : Str) := by decide
    rw [this] at e
    simpa using (congrArg (fun s : Str => s.cps) e).symm
  subst hc'
  refine ⟨starts_no (y := Str.ofString "<->") (c' := 60) hc (by decide) (by decide), starts_no (y := Str.ofString "->") (c' := 45) hc (by decide) (by decide), starts_yes (y := Str.ofString "~") (fun j hj => ?_) (by decide)⟩
  have : j = 0 := by
    have h1 : (Str.ofString "~").length = 1 := by decide
    omega
  subst this
  rw [Nat.add_zero, hc]
  decide
open PyProof in
theorem starts_arrow {x : Str} {i : Nat} (h : SignAt x i (Str.ofString "-")) (h2 : SignAt x (i + 1) (Str.ofString ">")) : Txt.startswith3 x (Str.ofString "<->") (i : Int) = false ∧ Txt.startswith3 x (Str.ofString "->") (i : Int) = true := by
  obtain ⟨c, hc, e⟩ := h
  obtain ⟨d, hd, e2⟩ := h2
  have hc' : c = 45 := by
    have : (Str.ofString "-") = (⟨#[45]⟩ : Str) := by decide
    rw [this] at e
    simpa using (congrArg (fun s : Str => s.cps) e).symm
  have hd' : d = 62 := by
    have : (Str.ofString ">") = (⟨#[62]⟩ : Str) := by decide
    rw [this] at e2
    simpa using (congrArg (fun s : Str => s.cps) e2).symm
  subst hc'
  subst hd'
  refine ⟨starts_no (y := Str.ofString "<->") (c' := 60) hc (by decide) (by decide), starts_yes (y := Str.ofString "->") (fun j hj => ?_) (by decide)⟩
  have h1 : (Str.ofString "->").length = 2 := by decide
  have : j = 0 ∨ j = 1 := by omega
  rcases this with rfl | rfl
  · rw [Nat.add_zero, hc]
    decide
  · rw [hd]
    decide
/-- a word more -/
theorem TInv.add {h₀ : Heap} {L o : Addr} {x : Str} {t : Tok} {ws : List (Str × Int)} {news : List (Addr × Obj)} {s : Shared} {n i j tk : Nat} {h : Heap} {m : Str → Option Value} {D : Addr} {y : Str} {tt : Obj} {t1 t2 : Tok} {nd nt : Nat} {vs : List Value} {d ws' : List (Str × Int)} {rest : List (Addr × Obj)}
    (F : Fr h₀ L h m) (N : News h₀ L h ((D, tt) :: (o, listOf (vs ++ [Value.ref D]).toArray nt) :: rest)) (ht : tt = tupO [.str y t1, .int (i : Int) t2] nd) (hi : ∃ ti, m (Str.ofString "i") = some (.int (j : Int) ti)) (ho : m (Str.ofString "out") = some (.ref o)) (hx : m (Str.ofString "text") = some (.str x t))
    (ad : ∀ q ∈ rest, q.1 ≠ o) (hsub : ∀ q ∈ news, q ∈ rest) (hl : Lex x j ws') (hT : TKs rest vs d) (hws : ws = d ++ (y, (i : Int)) :: ws') (hn : n + i = x.length) (hij : i < j) (hj : j ≤ x.length) : ∃ n', n' < n ∧ TInv h₀ L o x t ws news s n' { s with heap := h, toks := tk } := by
  subst ht
  refine ⟨x.length - j, by omega, h, tk, vs ++ [Value.ref D], nt, j, (D, tupO [.str y t1, .int (i : Int) t2] nd) :: rest, m, d ++ [(y, (i : Int))], ws', rfl, F, hi, ho, hx, ?_, ?_, fun q hq => List.mem_cons_of_mem _ (hsub q hq), hl, hT.add, by rw [hws, List.append_assoc]; rfl, by omega⟩
  · refine nsub N fun q hq => ?_
    rcases List.mem_cons.mp hq with rfl | hq
    · exact List.mem_cons_of_mem _ List.mem_cons_self
    · rcases List.mem_cons.mp hq with rfl | hq
      · exact List.mem_cons_self
      · exact List.mem_cons_of_mem _ (List.mem_cons_of_mem _ hq)
  · intro q hq
    rcases List.mem_cons.mp hq with rfl | hq
    · exact nne Obj.cls N List.mem_cons_self (List.mem_cons_of_mem _ List.mem_cons_self) (by show Value.type "tuple" ≠ Value.type "list"; decide)
    · exact ad q hq
theorem inList {K : Frag} {h : Heap} {l : Addr} {o : Obj} {vs : List Value} {n : Nat} (X : K.In h) (e : K.lookup l = some o) (ho : o = listOf vs.toArray n) : h.IsList l vs.toArray := by
  subst ho
  exact ⟨_, X _ _ e, rfl, n, rfl⟩
end Mine
end
section
open PySem PySem.W PyProof.Rows PyProof.V PySem.Spec
namespace Mine
section
open PySem PyProof
variable {prog : Program} {w : World} {A : Around} {E : Value → Shared → Prop} {h : Heap} {g : Array GenState} {d : Drawn} {t : Nat} {os : OsState}
variable {nm q : Str} {C N : Addr} {bs bm bmB : List Value} {hdct : Bool} {sn : List Str} {sub : List Value} {ab : Bool} {col : Option Bool} {dd : Option Addr} {k0 k1 k2 k3 k5 : Option Value} {B newId initId : String}
/-- an own exception class over own ones, with an __init__ of its own: the call of the type -/
theorem exc_made (F : ExcBaseFacts B newId initId bmB) (T : OwnTail h bmB bm) {mN : Str → Option Value} {rest : List Value} {fI : Addr} {oI : Obj} {Q : Fin → Shared → Prop}
    (hC : h.get? C = some (excClassObj nm q C N bs bm hdct sn sub ab col dd k0 k1 k2 k3 k5 newId)) (hn : h.Ns N mN) (hi : mN "__init__" = some (.ref fI)) (hfI : h.get? fI = some oI) (hfc : oI.cls = .type "function") (hrest : rest.length ≤ sizeLine)
    (hq : ∀ h' e, Heap.MadeExcOf h h' e (.ref C) rest → wpAny (model prog w) A (call (.ref fI) (.ref e :: rest)) (fun r s' => r = .none ∧ Q (.done (.ret (.ref e))) s') E ⟨h', g, d, t, os⟩) :
    wpAny (model prog w) A (Builtin.«type.__call__» ⟨.ref C :: rest, []⟩) Q E ⟨h, g, d, t, os⟩ := by
  repeat (first | with_reducible refine wpAny_loadPart_at hC ?_ | with_reducible refine wpAny_madeBy_exc hC ?_ | wp_step)
  refine codeAny_call_builtin_code (Code.quiet_builtin _ F.quiet) (wpAny_check_new_subT F T hC (codeAny_exc_new_subT F T hC ?_ hrest))
  have up : ∀ b o, h.get? b = some o → ((h.push { cls := .type "tuple", data := .seq rest.toArray }).push { cls := .ref C, data := .fields #[.ref h.objs.size, .none, .none, .none, .bool false, .none] }).get? b = some o := fun b o e => Heap.get?_push_of_some _ (Heap.get?_push_of_some _ e)
  have hget : ((h.push { cls := .type "tuple", data := .seq rest.toArray }).push { cls := .ref C, data := .fields #[.ref h.objs.size, .none, .none, .none, .bool false, .none] }).get? (h.objs.size + 1) = some { cls := .ref C, data := .fields #[.ref h.objs.size, .none, .none, .none, .bool false, .none] } := by heap_get
  have htup : ((h.push { cls := .type "tuple", data := .seq rest.toArray }).push { cls := .ref C, data := .fields #[.ref h.objs.size, .none, .none, .none, .bool false, .none] }).get? h.objs.size = some { cls := .type "tuple", data := .seq rest.toArray } := Heap.get?_push_of_some _ (Heap.get?_push_at rfl rfl)
  have hm : Heap.MadeExcOf h ((h.push { cls := .type "tuple", data := .seq rest.toArray }).push { cls := .ref C, data := .fields #[.ref h.objs.size, .none, .none, .none, .bool false, .none] }) (h.objs.size + 1) (.ref C) rest :=
    ⟨up, Heap.get?_none_of_le (Nat.le_succ _), h.objs.size, hget, Heap.get?_none_of_le (Nat.le_refl _), htup⟩
  have hC₁ := up _ _ hC
  have hfI₁ := up _ _ hfI
  have hn₁ := hn.keeps up
  have T₁ := T.keeps up
  have hcC : (Value.ref C :: bm).contains (.ref C) = true := by simp
  generalize hH : (h.push { cls := .type "tuple", data := .seq rest.toArray }).push { cls := .ref C, data := .fields #[.ref h.objs.size, .none, .none, .none, .bool false, .none] } = H at *
  show wpAny _ _ _ _ _ _
  unfold isInstance
  repeat (first | with_reducible refine wpAny_loadPart_at hget ?_ | (with_reducible refine wpAny_isSubtype_exc hC₁ ?_; rw [hcC]) | wp_step)
  show wpAny _ _ (typeLookup (.ref C) _) _ _ _
  refine wpAny_typeLookup_tail hC₁ hn₁ T₁ F.mroIs F.init.lookup ?_
  rw [hi]
  refine wpAny_holding (wpAny_bind ?_)
  unfold bindSpecial
  refine wpAny_bind (wpAny_typeOf (T := "function") ⟨_, hfI₁, hfc⟩ ?_)
  rw [if_pos (by decide)]
  refine wpAny_pure (wpAny_bind (wpAny_mono (hq _ _ hm) (fun r s' hr => ?_) fun _ _ x => x))
  obtain ⟨rfl, hQ⟩ := hr
  wp_walk
  exact hQ
/-- the call of the class -/
theorem exc_call (F : ExcBaseFacts B newId initId bmB) (T : OwnTail h bmB bm) {mN : Str → Option Value} {rest : List Value} {fI : Addr} {oI : Obj} {Q : Value → Shared → Prop}
    (hC : h.get? C = some (excClassObj nm q C N bs bm hdct sn sub ab col dd k0 k1 k2 k3 k5 newId)) (hn : h.Ns N mN) (hi : mN "__init__" = some (.ref fI)) (hfI : h.get? fI = some oI) (hfc : oI.cls = .type "function") (hrest : rest.length ≤ sizeLine)
    (hq : ∀ h' e, Heap.MadeExcOf h h' e (.ref C) rest → wpAny (model prog w) (A.under (.builtin "type.__call__" ⟨.ref C :: rest, []⟩)) (call (.ref fI) (.ref e :: rest)) (fun r s' => r = .none ∧ Q (.ref e) s') E ⟨h', g, d, t, os⟩) :
    wpAny (model prog w) A (call (.ref C) rest) Q E ⟨h, g, d, t, os⟩ := by
  have f1 := tc_lookup
  have f2 := tc_bind (.ref C)
  have hT : (⟨h, g, d, t, os⟩ : Shared).TypeIs (.ref C) "type" := ⟨_, hC, rfl⟩
  refine wpAny_call (codeAny_of_tree ?_)
  show wpAny _ _ (callAny (.ref C) _) _ _ _
  repeat (any_goals (first | assumption | with_reducible refine wpAny_loadPart_at hC ?_ | wp_step))
  refine ⟨rfl, ?_⟩
  refine codeAny_call_builtin_at (Code.quiet_builtin _ (by decide +kernel)) entry_typeCall (wpAny_check_type_call_sub hC (exc_made F T hC hn hi hfI hfc hrest fun h' e hm => ?_))
  exact hq h' e hm
end
/-- an own exception class with an __init__ of its own, in the written part -/
def excI (K : Frag) (C : Addr) (bmB : List Value) (newId : String) (fI : Addr) : Bool := match K.lookup C with
  | some ⟨.type "type", _, .cls cd, sl⟩ => (match cd.mro, sl.toList with
    | .ref C' :: bm, [_, _, _, _, some (.builtin n), _] => C' == C && n == newId && !cd.hasDel && tailIn K bmB bm && nsOkIn K cd.ns && nsIn K cd.ns "__init__" == some (some (.ref fI))
    | _, _ => false)
  | _ => false
theorem ns_some_of {K : Frag} {h : Heap} {N : Addr} {mg : Str → Option Value} {n : Str} {v : Value} (X : K.In h) (G : h.Ns N mg) (e : nsIn K N n = some (some v)) : mg n = some v := by
  obtain ⟨o, es, ep, ho, hd, _, hf⟩ := G
  unfold nsIn at e
  split at e
  · rename_i c d es' n' sl q
    have := X _ _ q
    rw [ho] at this
    cases this
    cases hd
    split at e
    · rename_i en he
      cases e
      rw [← hf]
      unfold nsFind findBy
      rw [← Array.find?_toList, he]
      rfl
    · split at e <;> cases e
  · cases e
theorem excI_of {K : Frag} {h : Heap} {C : Addr} {bmB : List Value} {newId : String} {fI : Addr} (X : K.In h) (e : excI K C bmB newId fI = true) :
    ∃ bm N nm q bs hdct sn sub ab col dd k0 k1 k2 k3 k5 mN, h.get? C = some (excClassObj nm q C N bs bm hdct sn sub ab col dd k0 k1 k2 k3 k5 newId) ∧ h.Ns N mN ∧ mN "__init__" = some (.ref fI) ∧ OwnTail h bmB bm := by
  unfold excI at e
  split at e
  · rename_i dd cd sl ho
    split at e
    · rename_i C' bm k0 k1 k2 k3 n k5 hm hs
      simp only [Bool.and_eq_true, beq_iff_eq, Bool.not_eq_true'] at e
      obtain ⟨⟨⟨⟨⟨rfl, rfl⟩, hdel⟩, ht⟩, hok⟩, hni⟩ := e
      obtain ⟨nm, bs, mro, ns, qn, hd, sn, sub, ab, col, del⟩ := cd
      dsimp only at hm hdel hok hni
      subst hm hdel
      have hsl : sl = #[k0, k1, k2, k3, some (.builtin n), k5] := by
        obtain ⟨l⟩ := sl
        simp only at hs
        rw [hs]
      subst hsl
      exact ⟨bm, ns, nm, qn, bs, hd, sn, sub, ab, col, dd, k0, k1, k2, k3, k5, _, X _ _ ho, .of_isNs (isNs_of_in X hok), ns_some_of X (.of_isNs (isNs_of_in X hok)) hni, tail_of_in X ht⟩
    · cases e
  · cases e
/-- a raised instance of it -/
structure ExcO (C : Addr) (o : Obj) : Prop where
  hcls : o.cls = .ref C
  hdat : ∃ vs a0, o.data = .fields vs ∧ vs[1]? = some .none ∧ vs[0]? = some a0
section
variable {prog : Program} {w : World} {A : Around} {E : Value → Shared → Prop} {s : Shared} {K : Frag} {C L : Addr} {h₀ : Heap} {m : Str → Option Value} {bmB : List Value} {B newId initId : String} {fI : Addr}
/-- the class is called -/
theorem exc_callK {rest : List Value} {Q : Value → Shared → Prop} {oI : Obj} (FB : ExcBaseFacts B newId initId bmB) (F : Fr h₀ L s.heap m) (X : K.In h₀) (e : excI K C bmB newId fI = true) (hf : K.lookup fI = some oI) (hfc : oI.cls = .type "function") (hrest : rest.length ≤ sizeLine)
    (hq : ∀ h' x t, Fr h₀ L h' m → News h₀ L h' [(x, { cls := .ref C, data := .fields #[.ref t, .none, .none, .none, .bool false, .none] })] →
      wpAny (model prog w) (A.under (.builtin "type.__call__" ⟨.ref C :: rest, []⟩)) (call (.ref fI) (.ref x :: rest)) (fun r s' => r = .none ∧ Q (.ref x) s') E { s with heap := h' }) :
    wpAny (model prog w) A (call (.ref C) rest) Q E s := by
  have X' := X.keeps F.keep
  obtain ⟨bm, N, nm, q, bs, hdct, sn, sub, ab, col, dd, k0, k1, k2, k3, k5, mN, hC, hN, hi, T⟩ := excI_of X' e
  obtain ⟨h, g, d, t, os⟩ := s
  refine exc_call FB T hC hN hi (X' _ _ hf) hfc hrest fun h' x hm => ?_
  obtain ⟨tt, hx, _, _⟩ := hm.there
  refine hq h' x tt (F.keeps hm.keeps) fun q hq => ?_
  rcases List.mem_cons.mp hq with rfl | hq
  · refine ⟨hx, fun z => ?_, ?_⟩
    · have := hm.new
      obtain ⟨_, _, _, hL, _⟩ := F.ns
      dsimp only at z
      rw [z] at this
      rw [this] at hL
      cases hL
    · cases q : h₀.get? x with
      | none => rfl
      | some o => have := F.keep _ _ q; have h2 := hm.new; dsimp only at this; rw [h2] at this; cases this
  · cases hq
/-- it is raised -/
theorem exc_raise {ex : PySem.Expr} {env : Env} {pos : Pos} {Q : Flow → Shared → Prop} (FB : ExcBaseFacts B newId initId bmB) (hh : A.handled = none)
    (h : wpAny (model prog w) A (eval ex env) (fun v s₁ => ∃ x o, v = .ref x ∧ K.In s₁.heap ∧ excI K C bmB newId fI = true ∧ s₁.heap.get? x = some o ∧ ExcO C o ∧ E (.ref x) s₁) E s) :
    wpAny (model prog w) A (exec (.Raise (some ex) none pos) env) Q E s := by
  rw [arm_exec_Raise]
  refine wpAny_bind (wpAny_standAt ?_)
  simp only [evalOpt, Option.map]
  unfold raiseStmt
  refine wpAny_bind (wpAny_bind (wpAny_mono h (fun v s₁ h₁ => wpAny_bind (wpAny_standAt (wpAny_pure ?_))) fun _ _ x => x))
  obtain ⟨x, o, rfl, X, e, hx, ⟨hcls, vs, a0, hd, h1, h0⟩, hE⟩ := h₁
  obtain ⟨bm, N, nm, q, bs, hdct, sn, sub, ab, col, dd, k0, k1, k2, k3, k5, mN, hC, hN, hi, T⟩ := excI_of X e
  have hcB : (Value.ref C :: bm).contains (.type "BaseException") = true := by rw [List.contains_cons, T.hasType FB.hasBase, Bool.or_true]
  obtain ⟨hp, g, d, tk, os⟩ := s₁
  repeat (first | with_reducible refine wpAny_field hx hd h1 ?_ | (with_reducible refine wpAny_loadPart_at hx ?_; rw [hcls]) | with_reducible refine wpAny_loadPart_at hx ?_ | with_reducible refine wpAny_loadPart_at hC ?_ | (with_reducible refine wpAny_isSubtype_exc hC ?_; rw [hcB]) | wp_step)
  exact wpAny_raiseNew_none hh hE
end
section
variable {M : Model} {A : Around} {E : Value → Shared → Prop} {s' : Shared} {base g g₂ : Heap} {outer : List Env} {L a x : Addr} {m : Str → Option Value} {name : Str} {scope : Scope} {cd : Value} {Q : Unit → Shared → Prop} {C : Addr}
/-- it flies -/
def Flies (base : Heap) (l : List Env) (x C : Addr) (h : Heap) : Prop := ∃ a0, Heap.FlyingW base l x (.ref C) a0 h
/-- it leaves the def that raised it -/
theorem exc_leave {o : Obj} (B : Below A base outer g) (F : Fr g L s'.heap m) (N : News g L s'.heap [(x, o)]) (hx : ExcO C o)
    (hQ : ∀ h', Flies base outer x C h' → g.UpToSlots h' → Q () { s' with heap := h' }) (hk : scope.kind = .function := by rfl) :
    wpAny M (A.deeper (envOf name scope L a cd)) (leaving (envOf name scope L a cd) (.ref x)) Q E s' := by
  have K' := B.push (name := name) (a := a) (cd := cd) F hk
  obtain ⟨hcls, vs, a0, hd, h1, h0⟩ := hx
  have hg := N _ List.mem_cons_self
  refine wpAny_leaving_firstW (a0 := a0) K'.stack K'.frames rfl hg.1 K'.stays (fresh_of_stays B.stays hg.2.2) hd h1 h0 fun h' hL => ?_
  obtain ⟨k1, ⟨_, _, k2⟩, k3, k4⟩ := hL
  exact hQ h' ⟨a0, k1, fresh_of_stays B.stays hg.2.2, k2, by rw [← hcls]; exact k3⟩ ((Heap.UpToSlots.of_keeps F.keep).trans k4)
/-- and those that called it -/
theorem exc_pass (B : Below A base outer g) (F : Fr g L g₂ m) (R : Flies base (envOf name scope L a cd :: outer) x C s'.heap) (hsm : g₂.UpToSlots s'.heap)
    (hQ : ∀ h', Flies base outer x C h' → g.UpToSlots h' → Q () { s' with heap := h' }) :
    wpAny M (A.deeper (envOf name scope L a cd)) (leaving (envOf name scope L a cd) (.ref x)) Q E s' := by
  obtain ⟨a0, hfl⟩ := R
  exact wpAny_leaves_onW (Around.frames_deeper B.stack) rfl hfl fun h' x1 x2 => hQ h' ⟨a0, x1⟩ ((Heap.UpToSlots.of_keeps F.keep).trans (hsm.trans x2))
end
section
variable {prog : Program} {w : World} {A₀ : Around} {E : Value → Shared → Prop} {s' : Shared} {h₀ h : Heap} {outer : List Env} {L a e : Addr} {m : Str → Option Value} {name : Str} {scope : Scope} {cd : Value}
  {b₀ : Stmt} {suite : List Stmt} {pos np : Pos} {rest : List ExceptHandler} {Q : Flow → Shared → Prop} {KF : Frag} {C fI : Addr} {bmB : List Value} {newId : String}
  {p : Program} {loose : List Str} {mean : ExcName → Option Value} {mg mb : Str → Option Value} {x : Str}
/-- it is caught by its own name -/
theorem exc_caught (K : Below A₀ h₀ outer h₀) (F : Fr h₀ L h m) (hsm : h.UpToSlots s'.heap) (R : Flies h₀ (envOf name scope L a cd :: outer) e C s'.heap)
    (X : KF.In h₀) (T : TopRead p loose mg mb h₀) (ex : nsIn KF mainGlobals x = some (some (.ref C))) (q : excI KF C bmB newId fI = true) (hbase : bmB.contains (.type "BaseException") = true)
    (k : ∀ h', Fr h₀ L h' m → wpAny (model prog w) ((A₀.deeper (envOf name scope L a cd)).mark (some (.ref e))) (execs (b₀ :: suite) (envOf name scope L a cd)) Q E { s' with heap := h' })
    (hk : scope.kind = .function := by rfl) (hx : (envOf name scope L a cd).kindOf x = some .globalImplicit := by rfl) (hd : (x == ("__debug__" : Str)) = false := by decide)
    (hE : PassesOwnAt (model prog w) ((A₀.deeper (envOf name scope L a cd)).mark (some (.ref e))) (A₀.deeper (envOf name scope L a cd)) (envOf name scope L a cd) E := by passes_own) :
    wpAny (model prog w) (A₀.deeper (envOf name scope L a cd)) (noteFrame (.ref e) (envOf name scope L a cd))
      (fun _ s₂ => wpAny (model prog w) (A₀.deeper (envOf name scope L a cd)) (setFlight (.ref e) none) (fun _ s₃ =>
        wpAny (model prog w) (A₀.deeper (envOf name scope L a cd)) (handleBy (.ref e) (envOf name scope L a cd) (.ExceptHandler (some (.Name x np)) none (b₀ :: suite) pos :: rest)) Q E s₃) E s₂) E s' := by
  obtain ⟨a0, hfl⟩ := R
  refine wpAny_looks_onW (Around.frames_deeper K.stack) rfl hfl fun h₄ hheld₄ hsm₄ => ?_
  refine wpAny_landsW hheld₄ fun h₅ hheld hsm₅' => ?_
  have hsm₅ := hsm₄.trans hsm₅'
  have F₅ := F.of_stays hheld.1 (hsm.trans hsm₅)
  obtain ⟨ob, hob, hobc⟩ := hheld.there
  refine wpAny_handleBy_cons (codeAny_handlers_test (name_K F₅ X T ex ?_ hk hx hd)) (by intro q; cases q)
  obtain ⟨bm, N, nm, qn, bs, hdct, sn, sub, ab, col, dd, k0, k1, k2, k3, k5, mN, hC, hN, hi, TL⟩ := excI_of (X.keeps F₅.keep) q
  refine wpAny_excMatches_sub_self hC hob hobc (TL.hasType hbase) (codeAny_handlers_suite ?_)
  refine lands_againW hheld fun h₆ hfl₆ hsm₆ => ?_
  exact wpAny_passesOwnAt hE (k h₆ (F.of_stays hfl₆.1 ((hsm.trans hsm₅).trans hsm₆)))
end
end Mine
end
section
open PySem PySem.W PyProof.Rows PyProof.V PySem.Spec
namespace Mine
/-- an exception that is being made -/
structure ExcAt (h₀ : Heap) (L : Addr) (h : Heap) (x C : Addr) (ns : List Str) : Prop where
  obj : ∃ vs sl dd a0, h.get? x = some ⟨.ref C, dd, .fields vs, sl⟩ ∧ vs[1]? = some .none ∧ vs[0]? = some a0 ∧ ((dd = none ∧ ns = []) ∨ ∃ D mA, dd = some D ∧ D ≠ x ∧ D ≠ L ∧ h₀.get? D = none ∧ h.Ns1 D mA ∧ Within mA ns)
  new : h₀.get? x = none
  ne : x ≠ L
theorem ExcAt.news {h₀ : Heap} {L : Addr} {h : Heap} {x C : Addr} {ns : List Str} (S : ExcAt h₀ L h x C ns) : ∃ o, ExcO C o ∧ News h₀ L h [(x, o)] := by
  obtain ⟨vs, sl, dd, a0, hx, h1, h0, _⟩ := S.obj
  refine ⟨⟨.ref C, dd, .fields vs, sl⟩, ⟨rfl, vs, a0, rfl, h1, h0⟩, fun q hq => ?_⟩
  rcases List.mem_cons.mp hq with rfl | hq
  · exact ⟨hx, S.ne, S.new⟩
  · cases hq
theorem none_size {h₀ h : Heap} {L : Addr} {m : Str → Option Value} (F : Fr h₀ L h m) : h₀.get? h.objs.size = none := by
  cases q : h₀.get? h.objs.size with
  | none => rfl
  | some o => exact absurd (Heap.lt_size (F.keep _ _ q)) (Nat.lt_irrefl _)
theorem fr_but {h₀ h h' : Heap} {L x D : Addr} {m : Str → Option Value} (F : Fr h₀ L h m) (hx : h₀.get? x = none) (hne : x ≠ L) (hD : h₀.get? D = none) (hDL : D ≠ L) (k : ∀ b o, b ≠ x → b ≠ D → h.get? b = some o → h'.get? b = some o) : Fr h₀ L h' m := by
  obtain ⟨o, es, ep, e, r⟩ := F.ns
  refine ⟨⟨o, es, ep, k L o hne.symm hDL.symm e, r⟩, fun b o e => k b o ?_ ?_ (F.keep b o e), F.above⟩
  · rintro rfl; rw [hx] at e; cases e
  · rintro rfl; rw [hD] at e; cases e
abbrev veMro : List Value := [.type "ValueError", .type "Exception", .type "BaseException", .type "object"]
def excOver (K : Frag) (C C2 : Addr) : Bool := (clsIn K C).any fun cd => cd.mro == .ref C :: .ref C2 :: veMro && cd.hasDict
section
open Builtin Builtin.ObjectAttr
variable {prog : Program} {w : World} {A : Around} {E : Value → Shared → Prop} {s : Shared} {K : Frag} {C C2 L x : Addr} {h₀ : Heap} {m : Str → Option Value} {ns : List Str} {name : Str} {v : Value}
/-- a field of the exception is stored: the code -/
theorem exc_setCode {tk : Tok} {R : Result → Shared → Prop} (F : Fr h₀ L s.heap m) (X₀ : K.In h₀) (S : ExcAt h₀ L s.heap x C ns) (ho : excOver K C C2 = true) (ht : takerIn K C name = some none) (hns : ns.length ≤ 10)
    (h : ∀ h' tk', Fr h₀ L h' m → ExcAt h₀ L h' x C (name :: ns) → R (.ok (.ret .none)) { s with heap := h', toks := tk' }) :
    codeAny (model prog w) A (.call (.builtin "object.__setattr__") ⟨[.ref x, .str name tk, v], []⟩) R s := by
  have SF := PySem.F.store_object
  have X := X₀.keeps F.keep
  obtain ⟨cd, hc, ho⟩ := any_some ho
  simp only [Bool.and_eq_true, beq_iff_eq] at ho
  obtain ⟨hmro, hdict⟩ := ho
  obtain ⟨⟨vs, sl, dd, a0, hx, h1, h0, hd⟩, hnew, hne⟩ := S
  have lt : Looks (model prog w) s.heap (typeOf (.ref x)) (.ref C) := (Looks.ld hx).andThen .now
  have sub : Looks (model prog w) s.heap (isInstance (.ref x) (.type "object")) true := lt.andThen (looks_mroIn X (by unfold mroIn; rw [hc, Option.bind_some, if_neg (by rw [hmro]; simp), hmro]; simp [veMro]))
  refine codeAny_call_builtin SF.slot.plain SF.entry (@check_slot (model prog w) _ _ s "object.__setattr__" "object" "__setattr__" (.ref x) [.str name tk, v] [] _ SF.kind SF.split sub (SF.args (.ref x) (.str name tk) v) ?_)
  obtain ⟨attr, ha, hr⟩ := Option.bind_eq_some_iff.mp ht
  have hm : Looks (model prog w) s.heap (mroOf (.ref C)) cd.mro := (looks_clsIn X hc).andThen .now
  have L3 : Looks (model prog w) s.heap (storeTaker? attr) none := by
    cases attr with
    | none => exact .now
    | some a =>
      obtain ⟨b, hb, hb2⟩ := Option.map_eq_some_iff.mp hr
      refine (looks_takesIn X hb).andThen ?_
      cases b with
      | true => cases hb2
      | false => exact .now
  rw [osa_eq, refuse_eq]
  refine wpAny_bind (wpAny_bind (lt.here (wpAny_bind (hm.here ?_))))
  rw [hmro, refuseLoop_ref, refuseLoop_ref, PySem.F.store_ValueError.passes]
  refine wpAny_pure (wpAny_bind (lt.here (wpAny_bind ((looks_findIn X ha).here (wpAny_bind (L3.here ?_))))))
  dsimp only
  refine wpAny_bind (wpAny_pure (wpAny_bind (wpAny_bind (wpAny_loadPart hx (wpAny_bind ((looks_clsIn X hc).here ?_))))))
  rw [hdict]
  obtain ⟨hp, g, d, t, os⟩ := s
  dsimp only at *
  have hxs : x ≠ hp.objs.size := Nat.ne_of_lt (Heap.lt_size hx)
  rcases hd with ⟨rfl, rfl⟩ | ⟨D, mA, rfl, hDx, hDL, hD0, hDn, hw⟩
  · have hx₁ : (hp.push { cls := .type "dict", data := .dict #[] }).get? x = some ⟨.ref C, none, .fields vs, sl⟩ := Heap.get?_push_of_some _ hx
    refine wpAny_bind (wpAny_alloc' (wpAny_bind (wpAny_update' hx₁ ?_)))
    have hgd : ((hp.push { cls := .type "dict", data := .dict #[] }).update x fun o => { cls := o.cls, dict := some hp.objs.size, data := o.data, slots := o.slots }).get? hp.objs.size = some { cls := .type "dict", data := .dict #[] } :=
      (Heap.get?_update_ne _ _ _ _ hxs.symm).trans (Heap.get?_push_at rfl rfl)
    have hnd : ((hp.push { cls := .type "dict", data := .dict #[] }).update x fun o => { cls := o.cls, dict := some hp.objs.size, data := o.data, slots := o.slots }).Ns hp.objs.size (fun _ => none) :=
      ⟨_, #[], _, hgd, rfl, fun e he => absurd he (by simp), fun _ => rfl⟩
    refine wpAny_pure ?_
    show wpAny _ _ (storeInDict hp.objs.size (.str name tk) name v) _ _ _
    unfold storeInDict newKeyGuard
    refine wpAny_bind (wpAny_pure (wpAny_bind (wpAny_nsSet1 (Heap.Ns1.of_empty hnd) fun h' hn' hs => ?_)))
    obtain ⟨oD, esD, epD, hoD, hdD, hcD⟩ := hn'.count (Within.cons name v Within.nil)
    refine wpAny_bind (wpAny_lookBehind hoD (by rw [hdD]; exact pastItsLine_dict (Nat.le_trans hcD (by rw [List.length_cons, List.length_nil, sizeLine_eq]; omega))) (wpAny_pure ?_))
    have hkeep : ∀ b o, b ≠ x → b ≠ hp.objs.size → hp.get? b = some o → h'.get? b = some o := fun b o hbx hbD hb =>
      (hs.2 b hbD).trans ((Heap.get?_update_ne _ _ _ _ hbx).trans (Heap.get?_push_of_some _ hb))
    have hD0 : h₀.get? hp.objs.size = none := none_size F
    have hDL : hp.objs.size ≠ L := Nat.ne_of_gt F.ns.lt
    have hx' : h'.get? x = some ⟨.ref C, some hp.objs.size, .fields vs, sl⟩ := (hs.2 x hxs).trans (Heap.get?_update_self _ hx₁ rfl)
    exact h h' _ (fr_but F hnew hne hD0 hDL hkeep) ⟨⟨vs, sl, _, a0, hx', h1, h0, .inr ⟨_, _, rfl, hxs.symm, hDL, hD0, hn', Within.cons name v Within.nil⟩⟩, hnew, hne⟩
  · refine wpAny_pure ?_
    show wpAny _ _ (storeInDict D (.str name tk) name v) _ _ _
    unfold storeInDict newKeyGuard
    refine wpAny_bind (wpAny_pure (wpAny_bind (wpAny_nsSet1 hDn fun h' hn' hs => ?_)))
    obtain ⟨oD, esD, epD, hoD, hdD, hcD⟩ := hn'.count (Within.cons name v hw)
    refine wpAny_bind (wpAny_lookBehind hoD (by rw [hdD]; exact pastItsLine_dict (Nat.le_trans hcD (by rw [List.length_cons, sizeLine_eq]; omega))) (wpAny_pure ?_))
    have hkeep : ∀ b o, b ≠ x → b ≠ D → hp.get? b = some o → h'.get? b = some o := fun b o _ hbD hb => (hs.2 b hbD).trans hb
    exact h h' _ (fr_but F hnew hne hD0 hDL hkeep) ⟨⟨vs, sl, _, a0, (hs.2 x hDx.symm).trans hx, h1, h0, .inr ⟨D, _, rfl, hDx, hDL, hD0, hn', Within.cons name v hw⟩⟩, hnew, hne⟩
/-- a field of the exception is stored -/
theorem exc_set {Q : Unit → Shared → Prop} (F : Fr h₀ L s.heap m) (X₀ : K.In h₀) (S : ExcAt h₀ L s.heap x C ns) (ho : excOver K C C2 = true) (hs : findIn K (.ref C) "__setattr__" = some (some (.builtin "object.__setattr__"))) (ht : takerIn K C name = some none) (hns : ns.length ≤ 10)
    (h : ∀ h' tk' o, Fr h₀ L h' m → ExcAt h₀ L h' x C (name :: ns) → ExcO C o → News h₀ L h' [(x, o)] → Q () { s with heap := h', toks := tk' }) :
    wpAny (model prog w) A (setAttr (.ref x) name v) Q E s := by
  have X := X₀.keeps F.keep
  obtain ⟨vs, sl, dd, a0, hx, _⟩ := S.obj
  have lt : Looks (model prog w) s.heap (typeOf (.ref x)) (.ref C) := (Looks.ld hx).andThen .now
  have f3 := PySem.F.store_object.slot.bind (.ref x)
  unfold setAttr callSpecial? specialOf
  refine wpAny_bind (wpAny_mkText ?_)
  refine wpAny_bind (wpAny_bind (wpAny_bind (Looks.here (s := { s with toks := s.toks + 1 }) lt (Looks.here (s := { s with toks := s.toks + 1 }) (looks_findIn X hs) (wpAny_holding (wpAny_bind ?_))))))
  rw [f3]
  refine wpAny_pure (wpAny_bind (wpAny_call ?_))
  refine exc_setCode (s := { s with toks := s.toks + 1 }) F X₀ S ho ht hns fun h' tk' F' S' => ?_
  obtain ⟨o, ho', N'⟩ := S'.news
  exact wpAny_pure (wpAny_pure (h h' tk' o F' S' ho' N'))
end
section
variable {prog : Program} {w : World} {A : Around} {E : Value → Shared → Prop} {s : Shared} {K : Frag} {C L x : Addr} {h₀ : Heap} {m : Str → Option Value} {fI : Addr} {v : Value} {t0 : Addr}
/-- the base's __init__ -/
theorem exc_init {Q : Value → Shared → Prop} (F : Fr h₀ L s.heap m) (X₀ : K.In h₀) (N : News h₀ L s.heap [(x, { cls := .ref C, data := .fields #[.ref t0, .none, .none, .none, .bool false, .none] })]) (e : excI K C veMro "ValueError.__new__" fI = true)
    (h : ∀ h' tk', Fr h₀ L h' m → ExcAt h₀ L h' x C [] → News h₀ L h' [] → Q .none { s with heap := h', toks := tk' }) :
    wpAny (model prog w) A (call (.builtin "ValueError.__init__") [.ref x, v]) Q E s := by
  have X := X₀.keeps F.keep
  have FB := PySem.F.excBase_ValueError
  obtain ⟨bm, N', nm, q, bs, hdct, sn, sub, ab, col, dd, k0, k1, k2, k3, k5, mN, hC, hN, hi, T⟩ := excI_of X e
  obtain ⟨hget, hne, hnew⟩ := N _ List.mem_cons_self
  obtain ⟨hp, g, d, t, os⟩ := s
  dsimp only at *
  refine wpAny_call (codeAny_call_builtin FB.init.plain FB.initEntry (wpAny_check_init_subT FB T hC hget rfl ?_))
  have hxs : x ≠ hp.objs.size := Nat.ne_of_lt (Heap.lt_size hget)
  wp_walk
  have hget' := Heap.get?_push_of_some { cls := .type "tuple", data := .seq [v].toArray } hget
  have hD0 : h₀.get? hp.objs.size = none := none_size F
  have hDL : hp.objs.size ≠ L := Nat.ne_of_gt F.ns.lt
  refine h _ _ (fr_but F hnew hne hD0 hDL fun b o hbx _ hb => ?_) ⟨⟨_, _, none, _, Heap.get?_update_self _ hget' rfl, rfl, rfl, .inl ⟨rfl, rfl⟩⟩, hnew, hne⟩ News.nil
  exact (Heap.get?_update_ne _ _ _ _ hbx).trans (Heap.get?_push_of_some _ hb)
end
end Mine
end
section
open PySem PySem.W PyProof.Rows PyProof.V PySem.Spec
namespace Mine
theorem kl_last_app (y : Value) : ∀ p : List Value, kl_last (p ++ [y]) = some (p, y)
  | [] => rfl
  | [x] => rfl
  | x :: z :: r => by
    have ih := kl_last_app y (z :: r)
    rw [List.cons_append] at ih
    rw [List.cons_append, List.cons_append]
    unfold kl_last
    rw [ih]
section
variable {prog : Program} {w : World} {A : Around} {E : Value → Shared → Prop} {s : Shared} {h₀ : Heap} {L : Addr} {m : Str → Option Value} {news : List (Addr × Obj)} {Q : Value → Shared → Prop}
theorem popL {a : Addr} {vs : List Value} {n : Nat} {x : Value} {news' : List (Addr × Obj)} (F : Fr h₀ L s.heap m) (N : News h₀ L s.heap news) (U : Upd a (listOf (vs ++ [x]).toArray n) (listOf vs.toArray (n + 1)) news news') (hsz : vs.length ≤ 1000)
    (h : ∀ h', Fr h₀ L h' m → News h₀ L h' news' → Q x { s with heap := h' }) : wpAny (model prog w) A (call (.builtin "list.pop") [.ref a]) Q E s := by
  refine kl_pop (its := (vs ++ [x]).toArray) F N (by simpa using kl_last_app x vs) U ?_ h
  rw [sizeLine_eq]
  simp
  omega
end
theorem upm2 {m : Str → Option Value} {a b : Str} {u v : Value} (h1 : m a = some u) (h2 : m b = some v) : ∀ y, m y = upm a (some u) (upm b (some v) m) y := by
  intro y
  by_cases e1 : y = a
  · subst e1; simp [upm, h1]
  · by_cases e2 : y = b
    · subst e2; simp [upm, e1, h2]
    · simp [upm, e1, e2]
theorem Lex.bound {x : Str} {i : Nat} {ws : List (Str × Int)} (h : Lex x i ws) : ∀ y ∈ ws, 0 ≤ y.2 ∧ y.2 ≤ (x.length : Int) := by
  induction h with
  | done _ => intro y hy; cases hy
  | space _ _ ih => exact ih
  | word h1 _ _ ih =>
    intro y hy
    have := h1.lt
    rcases List.mem_cons.mp hy with rfl | hy
    · exact ⟨by omega, by dsimp only; omega⟩
    · exact ih y hy
  | tilde h1 _ ih =>
    intro y hy
    have := h1.lt
    rcases List.mem_cons.mp hy with rfl | hy
    · exact ⟨by omega, by dsimp only; omega⟩
    · exact ih y hy
  | arrow h1 _ _ ih =>
    intro y hy
    have := h1.lt
    rcases List.mem_cons.mp hy with rfl | hy
    · exact ⟨by omega, by dsimp only; omega⟩
    · exact ih y hy
section
variable {h₀ h : Heap} {L : Addr} {news : List (Addr × Obj)}
theorem FIs.tups {news' : List (Addr × Obj)} {v : Value} {f : Sf} (x : FIs news v f) (k : ∀ (a : Addr) (vs : List Value) (n : Nat), (a, tupO vs n) ∈ news → (a, tupO vs n) ∈ news') : FIs news' v f := by
  induction x with
  | atom h1 h2 => exact .atom (k _ _ _ h1) (k _ _ _ h2)
  | atomx h1 h2 h3 => exact .atomx (k _ _ _ h1) (k _ _ _ h2) (k _ _ _ h3)
  | no h1 _ ih => exact .no (k _ _ _ h1) ih
  | all h1 _ ih => exact .all (k _ _ _ h1) ih
  | some h1 _ ih => exact .some (k _ _ _ h1) ih
  | par _ ih => exact .par ih
  | imp h1 _ _ ih ih2 => exact .imp (k _ _ _ h1) ih ih2
theorem tup_off {o : Addr} {us : List Value} {nu : Nat} (N : News h₀ L h news) (ho : (o, listOf us.toArray nu) ∈ news) (a : Addr) (vs : List Value) (n : Nat) (hm : (a, tupO vs n) ∈ news) : (a, tupO vs n) ∈ off o news :=
  mem_off.mpr ⟨hm, nne Obj.cls N hm ho (by show Value.type "tuple" ≠ Value.type "list"; decide)⟩
end
section
variable {C : Addr} {w : World} {h₀ h : Heap} {L : Addr} {news news2 : List (Addr × Obj)} {rd dd tl o : Addr} {r : RT} {nt nu : Nat} {vs us : List Value} {ws : List (Str × Int)} {i : Nat} {dq : Int} {v' : Value} {g : Sf}
theorem RS.at {j : Nat} (S : RS C w news rd dd tl r nt vs ws i dq) (e : i = j) : RS C w news rd dd tl r nt vs ws j dq := e ▸ S
theorem RS.offl (N : News h₀ L h news) (S : RS C w news rd dd tl r nt vs ws i dq) (ho : (o, listOf us.toArray nu) ∈ news) (hot : @Ne Nat o tl) : RS C w (off o news) rd dd tl r nt vs ws i dq := by
  obtain ⟨hrd, ⟨ua, ud, hdd⟩, htl, hlen, hle, htk⟩ := S
  refine ⟨mem_off.mpr ⟨hrd, nne Obj.cls N hrd ho (fun e => by cases e)⟩, ⟨ua, ud, mem_off.mpr ⟨hdd, nne Obj.cls N hdd ho (by show Value.type "dict" ≠ Value.type "list"; decide)⟩⟩, mem_off.mpr ⟨htl, Ne.symm hot⟩, hlen, hle, fun i x hx => ?_⟩
  obtain ⟨a, t, u, n, h1, h2⟩ := htk i x hx
  exact ⟨a, t, u, n, h1, tup_off N ho _ _ _ h2⟩
theorem istep (N : News h₀ L h news2) (S : RS C w news2 rd dd tl r nt vs ws i dq) (ho : (o, listOf us.toArray nu) ∈ news2) (hot : @Ne Nat o tl) (hfi : ∀ v ∈ us, FIs news2 v .atom) (f : FIs news2 v' g) (Kn : Kept dd news news2) (hno : ∀ q ∈ news, q.1 ≠ o) :
    ∃ rest, News h₀ L h ((o, listOf us.toArray nu) :: rest) ∧ (∀ q ∈ rest, q.1 ≠ o) ∧ Kept dd news rest ∧ RS C w rest rd dd tl r nt vs ws i dq ∧ (∀ v ∈ us, FIs rest v .atom) ∧ FIs rest v' g :=
  ⟨off o news2, RS.front N ho, off_ne, fun q hq h1 => mem_off.mpr ⟨Kn q hq h1, hno q hq⟩, S.offl N ho hot, fun v hv => (hfi v hv).tups (tup_off N ho), f.tups (tup_off N ho)⟩
end
/-- between two turns of implication's first while -/
def IInv (C : Addr) (w : World) (h₀ : Heap) (L o rd dd tl : Addr) (r : RT) (nt : Nat) (vs : List Value) (ws : List (Str × Int)) (i : Nat) (dq : Int) (n : Nat) (news : List (Addr × Obj)) (s : Shared) (k' : Nat) (s' : Shared) : Prop :=
  ∃ (h : Heap) (tk : Nat) (us : List Value) (nu k : Nat) (rest : List (Addr × Obj)) (m : Str → Option Value),
    s' = { s with heap := h, toks := tk } ∧ Fr h₀ L h m ∧ m (Str.ofString "rows") = some (.ref o) ∧ m (Str.ofString "self") = some (.ref rd) ∧ News h₀ L h ((o, listOf us.toArray nu) :: rest) ∧ (∀ q ∈ rest, q.1 ≠ o) ∧ Kept dd news rest ∧
      RS C w rest rd dd tl r nt vs ws (i + 2 * k + 1) dq ∧ us.length = k + 1 ∧ (∀ v ∈ us, FIs rest v .atom) ∧ k ≤ n ∧ k' + k = n
/-- between two turns of its second -/
def JInv (C : Addr) (w : World) (h₀ : Heap) (L o rd dd tl : Addr) (r : RT) (nt : Nat) (vs : List Value) (ws : List (Str × Int)) (i : Nat) (dq : Int) (n : Nat) (news : List (Addr × Obj)) (s : Shared) (k' : Nat) (s' : Shared) : Prop :=
  ∃ (h : Heap) (tk : Nat) (us : List Value) (nu : Nat) (rest : List (Addr × Obj)) (m : Str → Option Value) (v : Value),
    s' = { s with heap := h, toks := tk } ∧ Fr h₀ L h m ∧ m (Str.ofString "rows") = some (.ref o) ∧ m (Str.ofString "out") = some v ∧ News h₀ L h ((o, listOf us.toArray nu) :: rest) ∧ (∀ q ∈ rest, q.1 ≠ o) ∧ Kept dd news rest ∧
      RS C w rest rd dd tl r nt vs ws i dq ∧ us.length = k' ∧ (∀ v ∈ us, FIs rest v .atom) ∧ k' ≤ n ∧ FIs rest v (chain (n - k'))
/-- what a def that refuses promises -/
def Raises1 (prog : Program) (K : Params → Frag) (C R fa : Addr) (w : World) (p : Program) (loose : List Str) (mean : ExcName → Option Value) (mg mb : Str → Option Value) (f : Sf) (ex : Nat) (bad : Nat → Prop) (stop : Str → Prop) : Prop :=
    ∀ (dp un : Nat) (gd : Option (List Code)) (cn : Str) (cs : Scope) (a : Addr) (ccd : Value) (cl : List (Str × Addr)) (outer : List Env) (A₀ : Around) (base h₀ : Heap) (L : Addr) (m : Str → Option Value) (news : List (Addr × Obj)) (s : Shared) (rd dd tl : Addr) (r : RT) (nt : Nat) (vs : List Value) (ws : List (Str × Int)) (i : Nat) (dq : Nat) (x : Str) (Q E : Value → Shared → Prop),
      Below A₀ base outer h₀ → Fr h₀ L s.heap m → (K w.params).In h₀ → News h₀ L s.heap news → Top p loose mean mg mb h₀ → cs.kind = .function → dp + 3 * (81 - dq) + ex + 60 < recursionLimit → un + 12 * (81 - dq) + 3 * ex + 700 < cLine →
      RS C w news rd dd tl r nt vs ws i (dq : Int) → At ws i f.words → wordAt ws (i + f.words.length) = x → stop x → i + f.words.length ≤ 800 → dq ≤ 80 → bad dq → (∀ y ∈ ws, 0 ≤ y.2 ∧ y.2 ≤ 1000) → 0 ≤ r.en → r.en ≤ 1000 →
      (∀ h' tk' e g, Flies base (envX cn cs L a ccd cl :: outer) e R h' → Fr h₀ L g m → g.UpToSlots h' → E (.ref e) { s with heap := h', toks := tk' }) →
      wpAny (model prog w) (ktrTop dp un gd cn cs L a ccd cl outer) (call (.ref fa) [.ref rd]) Q E s
end Mine
end
section
open PySem PySem.W PyProof.Rows PyProof.V PySem.Spec
namespace Mine
/-- a tree of tuples: how deep, how many nodes -/
inductive DN (news : List (Addr × Obj)) : Value → Nat → Nat → Prop
  | leaf {a b : Addr} {k y : Str} {t u : Tok} {n m : Nat} : (a, tupO [.str k t, .str y u, .ref b] n) ∈ news → (b, tupO [] m) ∈ news → DN news (.ref a) 1 1
  | un {a : Addr} {k : Str} {t : Tok} {n : Nat} {v : Value} {d c : Nat} : (a, tupO [.str k t, v] n) ∈ news → DN news v d c → DN news (.ref a) (d + 1) (c + 1)
  | bi {a : Addr} {k : Str} {t : Tok} {n : Nat} {v u : Value} {d c d' c' : Nat} : (a, tupO [.str k t, v, u] n) ∈ news → DN news v d c → DN news u d' c' → DN news (.ref a) (max d d' + 1) (c + c' + 1)
theorem DN.head {news : List (Addr × Obj)} {v : Value} {d c : Nat} (x : DN news v d c) : ∃ (a : Addr) (k : Str) (t : Tok) (vs : List Value) (n : Nat), v = .ref a ∧ (a, tupO (.str k t :: vs) n) ∈ news ∧ vs.length ≤ 2 := by
  cases x with
  | leaf h1 _ => exact ⟨_, _, _, _, _, rfl, h1, by simp⟩
  | un h1 _ => exact ⟨_, _, _, _, _, rfl, h1, by simp⟩
  | bi h1 _ _ => exact ⟨_, _, _, _, _, rfl, h1, by simp⟩
theorem DN.tups {news news' : List (Addr × Obj)} {v : Value} {d c : Nat} (x : DN news v d c) (k : ∀ (a : Addr) (vs : List Value) (n : Nat), (a, tupO vs n) ∈ news → (a, tupO vs n) ∈ news') : DN news' v d c := by
  induction x with
  | leaf h1 h2 => exact .leaf (k _ _ _ h1) (k _ _ _ h2)
  | un h1 _ ih => exact .un (k _ _ _ h1) ih
  | bi h1 _ _ ih ih2 => exact .bi (k _ _ _ h1) ih ih2
theorem DN.mono {news news' : List (Addr × Obj)} {v : Value} {d c : Nat} (x : DN news v d c) (k : ∀ q ∈ news, q ∈ news') : DN news' v d c := x.tups fun _ _ _ h => k _ h
/-- without binders and terms -/
inductive Sf.Bare : Sf → Prop
  | atom : Sf.Bare .atom
  | no {f : Sf} : Sf.Bare f → Sf.Bare (.no f)
  | imp {f g : Sf} : Sf.Bare f → Sf.Bare g → Sf.Bare (.imp f g)
def Sf.dep : Sf → Nat
  | atom => 1
  | atomx => 2
  | no f => f.dep + 1
  | all f => f.dep + 1
  | some f => f.dep + 1
  | par f => f.dep
  | imp f g => max f.dep g.dep + 1
theorem FIs.dn {news : List (Addr × Obj)} {v : Value} {f : Sf} (hb : f.Bare) (x : FIs news v f) : ∃ c, DN news v f.dep c := by
  induction x with
  | atom h1 h2 => exact ⟨_, .leaf h1 h2⟩
  | no h1 _ ih => cases hb with | no hb => obtain ⟨c, h⟩ := ih hb; exact ⟨_, .un h1 h⟩
  | imp h1 _ _ ih ih2 => cases hb with | imp ha hb => obtain ⟨c, h⟩ := ih ha; obtain ⟨c', h'⟩ := ih2 hb; exact ⟨_, .bi h1 h h'⟩
  | atomx _ _ _ => cases hb
  | all _ _ _ => cases hb
  | some _ _ _ => cases hb
  | par _ _ => cases hb
/-- what lies in the heap to be looked at -/
def DItem (news : List (Addr × Obj)) (u : Value) (c : Nat) : Prop := ∃ (a : Addr) (v : Value) (k d : Nat) (t : Tok) (n : Nat), u = .ref a ∧ (a, tupO [v, .int (k : Int) t] n) ∈ news ∧ DN news v d c ∧ 1 ≤ k ∧ k + d ≤ 81
/-- all of it, with its nodes counted -/
inductive DWork (news : List (Addr × Obj)) : List Value → Nat → Prop
  | nil : DWork news [] 0
  | snoc {us : List Value} {u : Value} {c n : Nat} : DWork news us n → DItem news u c → DWork news (us ++ [u]) (n + c)
theorem DItem.tups {news news' : List (Addr × Obj)} {u : Value} {c : Nat} (x : DItem news u c) (k : ∀ (a : Addr) (vs : List Value) (n : Nat), (a, tupO vs n) ∈ news → (a, tupO vs n) ∈ news') : DItem news' u c := by
  obtain ⟨a, v, k', d, t, n, h1, h2, h3, h4⟩ := x
  exact ⟨a, v, k', d, t, n, h1, k _ _ _ h2, h3.tups k, h4⟩
theorem DWork.tups {news news' : List (Addr × Obj)} {us : List Value} {n : Nat} (x : DWork news us n) (k : ∀ (a : Addr) (vs : List Value) (n : Nat), (a, tupO vs n) ∈ news → (a, tupO vs n) ∈ news') : DWork news' us n := by
  induction x with
  | nil => exact .nil
  | snoc _ h ih => exact .snoc ih (h.tups k)
theorem DN.pos {news : List (Addr × Obj)} {v : Value} {d c : Nat} (x : DN news v d c) : 1 ≤ c ∧ 1 ≤ d := by cases x <;> exact ⟨by omega, by omega⟩
theorem DWork.len {news : List (Addr × Obj)} {us : List Value} {n : Nat} (x : DWork news us n) : us.length ≤ n := by
  induction x with
  | nil => simp
  | snoc _ h ih =>
    obtain ⟨_, _, _, _, _, _, _, _, h3, _⟩ := h
    have := h3.pos
    rw [List.length_append, List.length_singleton]
    omega
theorem DWork.last {news : List (Addr × Obj)} {us : List Value} {u : Value} {n : Nat} (x : DWork news (us ++ [u]) n) : ∃ m c, DWork news us m ∧ DItem news u c ∧ m + c = n := by
  generalize e : us ++ [u] = vs at x
  cases x with
  | nil => simp at e
  | snoc h1 h2 =>
    obtain ⟨rfl, e2⟩ := List.append_inj' e rfl
    obtain rfl : u = _ := by simpa using e2
    exact ⟨_, _, h1, h2, rfl⟩
theorem allLt_lt {d : Addr} : ∀ {l : List (Addr × Obj)}, AllLt d l → ∀ p ∈ l, @Eq Nat p.1 (d + 1) → False
  | [], _, _, hp, _ => nomatch hp
  | _ :: _, h, p, hp, e => by
    rcases List.mem_cons.mp hp with rfl | hp
    · have := h.1; omega
    · exact allLt_lt h.2 p hp e
/-- between two turns of depth -/
def DInv (h₀ : Heap) (L o : Addr) (news : List (Addr × Obj)) (s : Shared) (n : Nat) (s' : Shared) : Prop :=
  ∃ (h : Heap) (tk : Nat) (us : List Value) (nu : Nat) (oc : Obj) (vc : Option Value) (rest : List (Addr × Obj)) (m : Str → Option Value) (k : Int),
    s' = { s with heap := h, toks := tk } ∧ Fr h₀ L h m ∧ m (Str.ofString "work") = some (.ref o) ∧ (∃ t, m (Str.ofString "deepest") = some (.int k t)) ∧ k ≤ 80 ∧ 0 ≤ k ∧ News h₀ L h ((o, listOf us.toArray nu) :: (L + 1, oc) :: rest) ∧ oc.data = .cell vc ∧
      (∀ q ∈ rest, q.1 ≠ o) ∧ (∀ q ∈ rest, @Ne Nat q.1 (L + 1)) ∧ @Ne Nat o (L + 1) ∧ (∀ q ∈ news, q ∈ rest) ∧ DWork rest us n ∧ n ≤ 900
theorem DWork.one {news : List (Addr × Obj)} {u : Value} {c : Nat} (x : DItem news u c) : DWork news [u] c := by
  have := DWork.snoc (us := []) .nil x
  rwa [List.nil_append, Nat.zero_add] at this
theorem DInv.init {h₀ : Heap} {L o D : Addr} {news : List (Addr × Obj)} {s : Shared} {h : Heap} {tk : Nat} {tt oc : Obj} {vc : Option Value} {m : Str → Option Value} {v : Value} {t t0 : Tok} {d c : Nat} (F : Fr h₀ L h m) (N : News h₀ L h ((o, listOf [Value.ref D].toArray 0) :: (D, tt) :: (L + 1, oc) :: news))
    (ht : tt = tupO [v, .int 1 t] 0) (hw : m (Str.ofString "work") = some (.ref o)) (hdp : m (Str.ofString "deepest") = some (.int 0 t0)) (hc : oc.data = .cell vc) (l1 : @LT.lt Nat _ (L + 1) D) (l2 : @LT.lt Nat _ D o) (a1 : AllLt L news) (a3 : AllLt o news) (hdn : DN news v d c) (hd : d ≤ 80) (hc9 : c ≤ 900) :
    DInv h₀ L o news s c { s with heap := h, toks := tk } := by
  subst ht
  refine ⟨h, tk, [.ref D], 0, oc, vc, (D, tupO [v, .int ((1 : Nat) : Int) t] 0) :: news, m, 0, rfl, F, hw, ⟨t0, hdp⟩, by omega, by omega, nsub N (fun q hq => ?_), hc, ?_, ?_, ?_, fun q hq => List.mem_cons_of_mem _ hq, DWork.one ⟨D, v, 1, d, t, 0, rfl, List.mem_cons_self, hdn.mono fun q hq => List.mem_cons_of_mem _ hq, by omega, by omega⟩, hc9⟩
  · rcases List.mem_cons.mp hq with rfl | hq
    · exact List.mem_cons_self
    · rcases List.mem_cons.mp hq with rfl | hq
      · exact List.mem_cons_of_mem _ (List.mem_cons_of_mem _ List.mem_cons_self)
      · rcases List.mem_cons.mp hq with rfl | hq
        · exact List.mem_cons_of_mem _ List.mem_cons_self
        · exact List.mem_cons_of_mem _ (List.mem_cons_of_mem _ (List.mem_cons_of_mem _ hq))
  · intro q hq
    rcases List.mem_cons.mp hq with rfl | hq
    · exact Nat.ne_of_lt l2
    · exact allLt_ne a3 q hq
  · intro q hq
    rcases List.mem_cons.mp hq with rfl | hq
    · exact Nat.ne_of_gt l1
    · intro e
      exact allLt_lt a1 q hq e
  · exact Nat.ne_of_gt (Nat.lt_trans l1 l2)
end Mine
end
section
open PySem PySem.W PyProof.Rows PyProof.V PySem.Spec
namespace Mine
section
variable {prog : Program} {w : World} {A : Around} {E : Value → Shared → Prop} {s : Shared} {env : Env} {h₀ : Heap} {x : Str} {body : List Stmt} {Q : Flow → Shared → Prop}
/-- behind a turn of a loop over a made tuple -/
def TupEnd (h₀ : Heap) (L : Addr) (J : (Str → Option Value) → List (Addr × Obj) → Prop) (own : List (Addr × Obj)) (s₁ : Shared) (f : Flow) (s₂ : Shared) : Prop :=
  f = .next ∧ ∃ h' tk m' news' nx, s₂ = { s₁ with heap := h', toks := tk } ∧ Fr h₀ L h' m' ∧ News h₀ L h' news' ∧ (∀ p ∈ nx, p ∈ news') ∧ (∀ p ∈ own, p ∈ news') ∧ (∀ p ∈ own, ∀ q ∈ nx, p.1 ≠ q.1) ∧ J m' nx
theorem tup_iter {l : Addr} {vs : List Value} {nn : Nat} {m₀ : Str → Option Value} {news : List (Addr × Obj)} (J : Nat → (Str → Option Value) → List (Addr × Obj) → Prop)
    (hh : A.handled = none) (hl : (l, tupO vs nn) ∈ news) (F : Fr h₀ env.locals s.heap m₀) (N : News h₀ env.locals s.heap news) (hj : J 0 m₀ news) (hlJ : ∀ i m nx, J i m nx → (l, tupO vs nn) ∈ nx)
    (turn : ∀ i v m₁ news₁ h tk own, vs[i]? = some v → (∀ p ∈ own, ∀ q ∈ news₁, p.1 ≠ q.1) → J i m₁ news₁ → Fr h₀ env.locals h (upm x (some v) m₁) → News h₀ env.locals h (news₁ ++ own) →
      wpAny (model prog w) A (execs body env) (TupEnd h₀ env.locals (J (i + 1)) own { s with heap := h, toks := tk }) E { s with heap := h, toks := tk })
    (done : ∀ m₁ news₁ h tk, J vs.length m₁ news₁ → Fr h₀ env.locals h m₁ → News h₀ env.locals h news₁ → Q .next { s with heap := h, toks := tk }) :
    wpAny (model prog w) A (pyIter (.ref l)) (fun it s₂ => LoopAtV prog w A h₀ env x body Q E it s₂) E s := by
  have hol : s.heap.get? l = some (tupO vs nn) := (N _ hl).1
  have hls : s.heap.IsTuple l vs.toArray := ⟨_, hol, rfl, nn, rfl⟩
  have hne : l ≠ s.heap.objs.size := Nat.ne_of_lt (Heap.lt_size hol)
  refine wpAny_pyIter_tuple hls ?_
  have W := Walks.tuple (prog := prog) (w := w) hh s.heap.objs.size l hne vs.toArray
  have hlen : vs.toArray.size = vs.length := by simp
  rw [hlen] at W
  refine ⟨_, _, _, vs.length, _, _, m₀, news, J, rfl, W, ?_, ?_, ?_, ⟨⟨_, Heap.get?_push_size _ rfl, rfl, rfl⟩, hls.at fun o e => Heap.get?_push_of_some _ e⟩, F.push _, (fun p hp => ⟨Heap.get?_push_of_some _ (N p hp).1, (N p hp).2⟩), hj, ?_, ?_⟩
  · intro hm
    rcases List.mem_cons.mp hm with e | hm
    · exact absurd F.ns.lt (e ▸ Nat.lt_irrefl _)
    · exact (N _ hl).2.1 ((List.mem_singleton.mp hm).symm)
  · intro b hb
    rw [List.mem_singleton.mp hb]
    exact next_is_new F
  · intro p hp hI
    exact absurd (Heap.lt_size (N p hp).1) ((List.mem_singleton.mp hI) ▸ Nat.lt_irrefl _)
  · rintro i v m₁ news₁ s₁ own ⟨hh', tk', rfl⟩ hin hP hJ hoff hown hget hfp hst F₁ N₁
    have hP' : vs[i]? = some v := by simpa using hP
    have hI0 : h₀.get? s.heap.objs.size = none := next_is_new F
    obtain ⟨⟨oI, hoI, _⟩, _⟩ := id hst
    have hIown : (s.heap.objs.size, oI) ∈ own := hfp _ (List.mem_cons.mpr (.inl rfl)) hI0 _ hoI
    have hl₁ := hlJ _ _ _ hJ
    have hlo : hh'.get? l = some (tupO vs nn) := (N₁ _ (List.mem_append.mpr (.inr hl₁))).1
    refine wpAny_mono (turn i v m₁ news₁ hh' tk' [(s.heap.objs.size, oI)] hP' ?_ hJ F₁ ?_) (fun f s₂ p => ?_) fun _ _ e => e
    · intro p hp q hq e
      rw [List.mem_singleton.mp hp] at e
      exact hoff q hq (List.mem_singleton.mpr e.symm)
    · intro p hp
      refine N₁ p ((List.mem_append.mp hp).elim (fun h => List.mem_append.mpr (.inr h)) fun h => List.mem_append.mpr (.inl ?_))
      rw [List.mem_singleton.mp h]; exact hIown
    · obtain ⟨rfl, h', tk, m', news', nx, e, F', N', hn, ho, ha, hm⟩ := p
      refine .next ⟨rfl, h', tk, m', nx, e, F', fun p hp => ?_, fun p hp hq => ?_, hm⟩
      · rcases List.mem_append.mp hp with h | h
        · by_cases hI : p.1 = s.heap.objs.size
          · have h2 : hh'.get? p.1 = some p.2 := hget p h
            rw [hI, hoI] at h2
            have h3 : p = (s.heap.objs.size, oI) := Prod.ext hI (Option.some.inj h2).symm
            rw [h3]
            exact N' _ (ho _ List.mem_cons_self)
          · have h1 : p.1 = l := by
              rcases List.mem_cons.mp (hown p h) with h2 | h2
              · exact absurd h2 hI
              · exact List.mem_singleton.mp h2
            have h2 : hh'.get? p.1 = some p.2 := hget p h
            rw [h1, hlo] at h2
            have h3 : p = (l, tupO vs nn) := Prod.ext h1 (Option.some.inj h2).symm
            rw [h3]
            exact N' _ (hn _ (hlJ _ _ _ hm))
        · exact N' p (hn p h)
      · exact ha _ List.mem_cons_self p hp (List.mem_singleton.mp hq).symm
  · rintro h' tk m' news' F' N' _ hJ
    exact done m' news' h' tk hJ F' N'
end
/-- a part of a node: a text, an empty tuple, or a node -/
def DPart (news : List (Addr × Obj)) (k : Nat) (p : Value) (c : Nat) : Prop :=
  (c = 0 ∧ ∃ y t, p = .str y t) ∨ (c = 0 ∧ ∃ b m, p = .ref b ∧ (b, tupO [] m) ∈ news) ∨ ∃ d, DN news p d c ∧ k + 1 + d ≤ 81
theorem DPart.mono {news news' : List (Addr × Obj)} {k : Nat} {p : Value} {c : Nat} (x : DPart news k p c) (h : ∀ q ∈ news, q ∈ news') : DPart news' k p c := by
  rcases x with x | ⟨h0, b, m, h1, h2⟩ | ⟨d, h1, h2⟩
  · exact .inl x
  · exact .inr (.inl ⟨h0, b, m, h1, h _ h2⟩)
  · exact .inr (.inr ⟨d, h1.mono h, h2⟩)
/-- a node's parts -/
theorem DN.parts {news : List (Addr × Obj)} {v : Value} {d c k : Nat} (x : DN news v d c) (hk : k + d ≤ 81) : ∃ (a : Addr) (ps : List Value) (n : Nat) (cs : List Nat), v = .ref a ∧ (a, tupO ps n) ∈ news ∧ ps.length = cs.length ∧ cs.sum + 1 = c ∧ ∀ (i : Nat) p c', ps[i]? = some p → cs[i]? = some c' → DPart news k p c' := by
  cases x with
  | leaf h1 h2 =>
    refine ⟨_, _, _, [0, 0, 0], rfl, h1, rfl, rfl, fun i p c' hp hc => ?_⟩
    match i, hp, hc with
    | 0, hp, hc => cases hp; cases hc; exact .inl ⟨rfl, _, _, rfl⟩
    | 1, hp, hc => cases hp; cases hc; exact .inl ⟨rfl, _, _, rfl⟩
    | 2, hp, hc => cases hp; cases hc; exact .inr (.inl ⟨rfl, _, _, rfl, h2⟩)
  | un h1 h2 =>
    rename_i c0
    refine ⟨_, _, _, [0, c0], rfl, h1, rfl, by simp, fun i p c' hp hc => ?_⟩
    match i, hp, hc with
    | 0, hp, hc => cases hp; cases hc; exact .inl ⟨rfl, _, _, rfl⟩
    | 1, hp, hc => cases hp; cases hc; exact .inr (.inr ⟨_, h2, by omega⟩)
  | bi h1 h2 h3 =>
    rename_i c0 d' c1
    refine ⟨_, _, _, [0, c0, c1], rfl, h1, rfl, by simp, fun i p c' hp hc => ?_⟩
    match i, hp, hc with
    | 0, hp, hc => cases hp; cases hc; exact .inl ⟨rfl, _, _, rfl⟩
    | 1, hp, hc => cases hp; cases hc; exact .inr (.inr ⟨_, h2, by omega⟩)
    | 2, hp, hc => cases hp; cases hc; exact .inr (.inr ⟨_, h3, by omega⟩)
/-- between two turns of depth's inner loop -/
def EInv (L o : Addr) (l : Addr) (ps : List Value) (np : Nat) (base news : List (Addr × Obj)) (k0 : Nat) (t0 : Tok) (m₀ : Str → Option Value) (m0 : Nat) (cs : List Nat) (i : Nat) (m : Str → Option Value) (nx : List (Addr × Obj)) : Prop :=
  (∃ ov, m = upm (Str.ofString "inner") ov m₀) ∧ ∃ (us : List Value) (nu : Nat) (oc : Obj) (rest : List (Addr × Obj)), nx = (o, listOf us.toArray nu) :: (L + 1, oc) :: rest ∧ oc.data = .cell (some (.int (k0 : Int) t0)) ∧ (∀ q ∈ rest, q.1 ≠ o) ∧ (∀ q ∈ rest, @Ne Nat q.1 (L + 1)) ∧ (∀ q ∈ base, q ∈ rest) ∧ (∀ q ∈ news, q ∈ rest) ∧ (l, tupO ps np) ∈ rest ∧ DWork rest us (m0 + (cs.take i).sum)
end Mine
end
section
open PySem PySem.W PyProof.Rows PyProof.V PySem.Spec
namespace Mine
/-- the tuple lies in the ledger -/
def SrcTp (ax : Addr) (its : Array Value) (news : List (Addr × Obj)) : Prop := False ∨ ∃ o, (ax, o) ∈ news ∧ o.cls = .type "tuple" ∧ ∃ n, o.data = .seq its n
/-- a comprehension's source that is a made tuple -/
def TupSrc (prog : Program) (w : World) (A : Around) (h₀ : Heap) (L : Addr) (m : Str → Option Value) (env : Env) (elt : PySem.Expr) (x : Str) (scope : Scope) (cl : List (Str × Addr)) (Fin : Shared → List Value → List (Addr × Obj) → Prop) (xv : Value) (s₁ : Shared) : Prop :=
  ∃ ax its news, xv = .ref ax ∧ A.handled = none ∧ Fr h₀ L s₁.heap m ∧ News h₀ L s₁.heap news ∧ SrcTp ax its news ∧ its.size ≤ sizeLine ∧
    ∀ g, LCg.CompRest prog w A h₀ L m env elt x scope cl { s₁ with heap := g } (SrcTp ax its) (fun i v => its[i]? = some v) (Fin { s₁ with heap := g }) its.size 0 [] news
section
variable {prog : Program} {w : World} {A : Around} {E : Value → Shared → Prop} {s : Shared} {h₀ : Heap} {L : Addr} {m : Str → Option Value} {env : Env}
theorem SrcTp.tup {h : Heap} {ax : Addr} {its : Array Value} {news : List (Addr × Obj)} (x : SrcTp ax its news) (N : News h₀ L h news) : IsTup h ax its := by
  rcases x with x | ⟨o, hm, r⟩
  · exact x.elim
  · exact ⟨o, N.get hm, r⟩
theorem tupSrc_intro {elt : PySem.Expr} {x : Str} {scope : Scope} {cl : List (Str × Addr)} {Fin : Shared → List Value → List (Addr × Obj) → Prop} {ax : Addr} {vs : List Value} {k : Nat} {news : List (Addr × Obj)} {s₁ : Shared}
    (hh : A.handled = none) (F : Fr h₀ L s₁.heap m) (N : News h₀ L s₁.heap news) (hm : (ax, tupO vs k) ∈ news) (hsz : vs.toArray.size ≤ sizeLine)
    (h : ∀ g, LCg.CompRest prog w A h₀ L m env elt x scope cl { s₁ with heap := g } (SrcTp ax vs.toArray) (fun i v => vs.toArray[i]? = some v) (Fin { s₁ with heap := g }) vs.toArray.size 0 [] news) :
    TupSrc prog w A h₀ L m env elt x scope cl Fin (.ref ax) s₁ := ⟨ax, vs.toArray, news, rfl, hh, F, N, .inr ⟨_, hm, rfl, _, rfl⟩, hsz, h⟩
theorem ListComp_Tp {elt iter : PySem.Expr} {x : Str} {px : Pos} {scope : Scope} {cl : List (Str × Addr)} {pos : Pos} {Q : Value → Shared → Prop} (_F₀ : Fr h₀ L s.heap m)
    (hclos : closureFor scope env = pure cl) (hcell : ∀ y ∈ scope.names, y.2 ≠ .cell) (hkind : scope.kind = .function)
    (hnames : ∀ y ∈ scope.names, y.2 = .local → scope.names.lookup y.1 = some .local) (hx : scope.names.lookup x = some .local)
    (h : wpAny (model prog w) A (eval iter env) (TupSrc prog w A h₀ L m env elt x scope cl (fun s₂ => LCg.FinE h₀ L m s₂ Q)) E s)
    (hs : ∀ x, foldedSetIterable iter env x = pure x := by intro _; rfl) :
    wpAny (model prog w) A (eval (.ListComp elt [⟨.Name x px, iter, [], 0⟩] scope pos) env) Q E s := by
  rw [eval_ListComp]
  refine wpAny_comprehension_free (use := none) rfl hs hclos hkind hnames (wpAny_mono h (fun xv s₁ h₁ => ?_) fun _ _ e => e)
  obtain ⟨ax, its, news, rfl, hh, F, N, S, hsz, R⟩ := h₁
  have hl : s₁.heap.IsTuple ax its := S.tup N
  have hlt : ax < s₁.heap.objs.size := by obtain ⟨_, e, _⟩ := hl; exact Heap.lt_size e
  refine wpAny_pyIter_tuple hl ?_
  have up : ∀ b o, s₁.heap.get? b = some o → (s₁.heap.push { cls := .type "tuple_iterator", data := .fields #[.ref ax, .int 0 0] }).get? b = some o := fun b o e => Heap.get?_push_of_some _ e
  refine LCg.block_U (Walks.tuple hh s₁.heap.objs.size ax (Nat.ne_of_lt hlt) its) hsz (fun i h st => by obtain ⟨o, e, _⟩ := st.1; exact ⟨o, e⟩) (S := SrcTp ax its) (fun i h h' o nw st e e' _ N' S' => ⟨by obtain ⟨o', q, r⟩ := st.1; rw [e] at q; cases q; exact ⟨o, e', r⟩, S'.tup N'⟩) hcell hkind hx
    ⟨⟨_, Heap.get?_push_size _ rfl, rfl, rfl⟩, IsTup.keeps hl up⟩ (fun b hb => ?_)
    (F.keeps up) (N.grown up) (Nat.ne_of_lt F.ns.lt) (next_is_new F) (fun p hp => Nat.ne_of_lt (Heap.lt_size (N p hp).1)) S (R _) ?_
  · show b < (s₁.heap.push _).objs.size
    rw [Heap.size_push]
    rcases List.mem_cons.mp hb with rfl | hb
    · exact Nat.lt_succ_self _
    · rw [List.mem_singleton.mp hb]; exact Nat.lt_succ_of_lt hlt
  · intro D C h tk m' ys news' F' N' o1 hn hC₀ hD₀ hCL hDL hCD offC fin
    refine ⟨m', hn, fun h'' hs'' => fin D h'' tk (F'.change hs'' hCL hC₀) (fun p hp => ?_) o1⟩
    refine ⟨hs''.extBut _ _ ?_ (N' p hp).1, (N' p hp).2⟩
    rcases List.mem_cons.mp hp with rfl | hp
    · exact Ne.symm hCD
    · exact offC p hp
end
section
variable {prog : Program} {w : World} {A : Around} {E : Value → Shared → Prop} {s : Shared} {h₀ : Heap} {L : Addr} {news : List (Addr × Obj)} {Q : Value → Shared → Prop}
theorem lenT {a : Addr} {vs : List Value} {n k : Nat} (N : News h₀ L s.heap news) (hm : (a, tupO vs n) ∈ news) (hk : vs.length = k) (hfit : k ≤ 1000)
    (h : Q (.int (k : Int) (s.toks + 1)) { s with toks := s.toks + 1 + 1 }) : wpAny (model prog w) A (call (.builtin "len") [.ref a]) Q E s := by
  have e : (vs.toArray.size : Int) = (k : Int) := by rw [List.size_toArray, hk]
  exact PyProof.Rows.len_tuple ⟨_, N.get hm, rfl, _, rfl⟩ (by rw [e]; omega) (by rw [e]; exact h)
end
section
variable {prog : Program} {w : World} {A : Around} {E : Value → Shared → Prop} {s : Shared} {h₀ : Heap} {L : Addr} {m : Str → Option Value} {news news' : List (Addr × Obj)} {Q : Value → Shared → Prop}
theorem extNil {o b : Addr} {us : List Value} {nu n2 : Nat} (F : Fr h₀ L s.heap m) (N : News h₀ L s.heap news) (hb : (b, listOf #[] n2) ∈ news) (U : Upd o (listOf us.toArray nu) (listOf us.toArray nu) news news') (hl : us.length ≤ 1000)
    (h : ∀ h', Fr h₀ L h' m → News h₀ L h' news' → Q .none { s with heap := h' }) : wpAny (model prog w) A (call (.builtin "list.extend") [.ref o, .ref b]) Q E s := by
  refine kxn_extend F N hb rfl U ?_ ?_ ?_ h
  · unfold Builtin.List.listTooLong
    rw [sizeLine_eq]
    simp
    omega
  · rw [sizeLine_eq]; simp; omega
  · rw [sizeLine_eq]; simp; omega
theorem seq0 (n : Nat) : seqIndex? 0 (n + 1) = some 0 := by
  unfold seqIndex?
  simp
theorem item0 {t : Addr} {x : Value} {vs : List Value} {n : Nat} {u : Tok} {value slice : PySem.Expr} (N : News h₀ L s.heap news) (hm : (t, tupO (x :: vs) n) ∈ news) (h : Q x s)
    (hs : subscripted slice false (.ref t) (.int 0 u) = operate [.ref t, .int 0 u] (getItem (.ref t) (.int 0 u))) (hg : ∀ r, letTemporaryGo value (.ref t) r = pure ()) :
    wpAny (model prog w) A (subscriptTail value slice (.ref t) (.int 0 u)) Q E s := itemT N hm (by decide) (by decide) (seq0 vs.length) rfl h hs hg
end
section
variable {h₀ : Heap} {L o l : Addr} {ps : List Value} {np : Nat} {base news : List (Addr × Obj)} {k0 : Nat} {t0 : Tok} {m₀ : Str → Option Value} {m0 : Nat} {cs : List Nat} {i : Nat} {us : List Value} {nu : Nat} {oc : Obj} {rest own news' : List (Addr × Obj)} {s : Shared} {h' : Heap} {tk : Nat} {ov : Option Value} {n1 nu0 : Nat}
theorem eend_same (F : Fr h₀ L h' (upm (Str.ofString "inner") ov m₀)) (N : News h₀ L h' news') (hs : ∀ q ∈ (o, listOf us.toArray nu) :: (L + 1, oc) :: (rest ++ own), q ∈ news') (hcd : oc.data = .cell (some (.int (k0 : Int) t0))) (ad1 : ∀ q ∈ rest, q.1 ≠ o) (ad2 : ∀ q ∈ rest, @Ne Nat q.1 (L + 1))
    (hbs : ∀ q ∈ base, q ∈ rest) (hns : ∀ q ∈ news, q ∈ rest) (hp : (l, tupO ps np) ∈ rest) (hW : DWork rest us n1) (hn : n1 = m0 + (cs.take (i + 1)).sum) (hown : ∀ p ∈ own, ∀ q ∈ (o, listOf us.toArray nu) :: (L + 1, oc) :: rest, p.1 ≠ q.1) :
    TupEnd h₀ L (EInv L o l ps np base news k0 t0 m₀ m0 cs (i + 1)) own s .next { s with heap := h', toks := tk } := by
  refine ⟨rfl, h', tk, _, news', (o, listOf us.toArray nu) :: (L + 1, oc) :: rest, rfl, F, N, fun q hq => hs q ?_, fun q hq => hs q ?_, hown, ⟨ov, rfl⟩, us, nu, oc, rest, rfl, hcd, ad1, ad2, hbs, hns, hp, hn ▸ hW⟩
  · rcases List.mem_cons.mp hq with rfl | hq
    · exact List.mem_cons_self
    · rcases List.mem_cons.mp hq with rfl | hq
      · exact List.mem_cons_of_mem _ List.mem_cons_self
      · exact List.mem_cons_of_mem _ (List.mem_cons_of_mem _ (List.mem_append_left _ hq))
  · exact List.mem_cons_of_mem _ (List.mem_cons_of_mem _ (List.mem_append_right _ hq))
theorem eend_more {D b : Addr} {tt : Obj} {t : Tok} {d1 c1 : Nat} (F : Fr h₀ L h' (upm (Str.ofString "inner") ov m₀)) (N : News h₀ L h' ((D, tt) :: (o, listOf (us ++ [Value.ref D]).toArray nu) :: (L + 1, oc) :: (rest ++ own))) (ht : tt = tupO [.ref b, .int ((k0 + 1 : Nat) : Int) t] 0) (hcd : oc.data = .cell (some (.int (k0 : Int) t0))) (ad1 : ∀ q ∈ rest, q.1 ≠ o) (ad2 : ∀ q ∈ rest, @Ne Nat q.1 (L + 1))
    (lD : AllLt D (rest ++ own)) (lo : @LT.lt Nat _ o D) (lL : @LT.lt Nat _ (L + 1) D)
    (hbs : ∀ q ∈ base, q ∈ rest) (hns : ∀ q ∈ news, q ∈ rest) (hp : (l, tupO ps np) ∈ rest) (hW : DWork rest us n1) (hd : DN rest (.ref b) d1 c1) (hk : k0 + 1 + d1 ≤ 81) (hn : n1 + c1 = m0 + (cs.take (i + 1)).sum) (hown : ∀ p ∈ own, ∀ q ∈ (o, listOf us.toArray nu0) :: (L + 1, oc) :: rest, p.1 ≠ q.1) :
    TupEnd h₀ L (EInv L o l ps np base news k0 t0 m₀ m0 cs (i + 1)) own s .next { s with heap := h', toks := tk } := by
  subst ht
  have up : ∀ q ∈ rest, q ∈ (D, tupO [.ref b, .int ((k0 + 1 : Nat) : Int) t] 0) :: rest := fun q hq => List.mem_cons_of_mem _ hq
  refine ⟨rfl, h', tk, _, _, (o, listOf (us ++ [Value.ref D]).toArray nu) :: (L + 1, oc) :: (D, tupO [.ref b, .int ((k0 + 1 : Nat) : Int) t] 0) :: rest, rfl, F, N, fun q hq => ?_, fun q hq => ?_, fun p hp q hq => ?_, ⟨ov, rfl⟩, us ++ [.ref D], nu, oc, _ :: rest, rfl, hcd, fun q hq => ?_, fun q hq => ?_, fun q hq => up q (hbs q hq), fun q hq => up q (hns q hq), up _ hp, hn ▸ ?_⟩
  · rcases List.mem_cons.mp hq with rfl | hq
    · exact List.mem_cons_of_mem _ List.mem_cons_self
    · rcases List.mem_cons.mp hq with rfl | hq
      · exact List.mem_cons_of_mem _ (List.mem_cons_of_mem _ List.mem_cons_self)
      · rcases List.mem_cons.mp hq with rfl | hq
        · exact List.mem_cons_self
        · exact List.mem_cons_of_mem _ (List.mem_cons_of_mem _ (List.mem_cons_of_mem _ (List.mem_append_left _ hq)))
  · exact List.mem_cons_of_mem _ (List.mem_cons_of_mem _ (List.mem_cons_of_mem _ (List.mem_append_right _ hq)))
  · rcases List.mem_cons.mp hq with rfl | hq
    · exact hown p hp (o, listOf us.toArray nu0) List.mem_cons_self
    · rcases List.mem_cons.mp hq with rfl | hq
      · exact hown p hp _ (List.mem_cons_of_mem _ List.mem_cons_self)
      · rcases List.mem_cons.mp hq with rfl | hq
        · exact allLt_ne lD p (List.mem_append_right _ hp)
        · exact hown p hp _ (List.mem_cons_of_mem _ (List.mem_cons_of_mem _ hq))
  · rcases List.mem_cons.mp hq with rfl | hq
    · exact Nat.ne_of_gt lo
    · exact ad1 q hq
  · rcases List.mem_cons.mp hq with rfl | hq
    · exact Nat.ne_of_gt lL
    · exact ad2 q hq
  · exact .snoc (hW.tups fun _ _ _ h => up _ h) ⟨D, .ref b, k0 + 1, d1, t, 0, rfl, List.mem_cons_self, hd.mono up, by omega, by omega⟩
end
end Mine
end
section
open PySem PySem.W PyProof.Rows PyProof.V PySem.Spec
namespace Mine
def Sf.nodes : Sf → Nat
  | atom => 1
  | atomx => 2
  | no f => f.nodes + 1
  | all f => f.nodes + 1
  | some f => f.nodes + 1
  | par f => f.nodes
  | imp f g => f.nodes + g.nodes + 1
theorem FIs.dn2 {news : List (Addr × Obj)} {v : Value} {f : Sf} (hb : f.Bare) (x : FIs news v f) : DN news v f.dep f.nodes := by
  induction x with
  | atom h1 h2 => exact .leaf h1 h2
  | no h1 _ ih => cases hb with | no hb => exact .un h1 (ih hb)
  | imp h1 _ _ ih ih2 => cases hb with | imp ha hb => exact .bi h1 (ih ha) (ih2 hb)
  | atomx _ _ _ => cases hb
  | all _ _ _ => cases hb
  | some _ _ _ => cases hb
  | par _ _ => cases hb
theorem chain_bare : ∀ n, (chain n).Bare
  | 0 => .atom
  | n + 1 => .imp .atom (chain_bare n)
theorem chain_dep : ∀ n, (chain n).dep = n + 1
  | 0 => rfl
  | n + 1 => by simp [chain, Sf.dep, chain_dep n]
theorem chain_nodes : ∀ n, (chain n).nodes = 2 * n + 1
  | 0 => rfl
  | n + 1 => by simp [chain, Sf.nodes, chain_nodes n]; omega
theorem wordAt_end {ws : List (Str × Int)} {n : Nat} (h : ws.length = n) : wordAt ws n = Str.ofString "" := by
  rw [wordAt, List.getElem?_eq_none (by omega)]
end Mine
end
section
open PySem PySem.W PyProof.Rows
namespace Mine
noncomputable abbrev prg : Program := PySem.Challenge.rw_ui0505_05.row.prog
section
noncomputable def st (i : Nat) : Stmt := (prg.main.body[i]?).getD (.Pass ⟨0, 0, 0, 0⟩)
noncomputable def clB : Stmt → List Stmt
  | .ClassDef _ _ _ b _ _ _ _ _ _ _ => b
  | _ => []
noncomputable def mt (i j : Nat) : Stmt := ((clB (st i))[j]?).getD (.Pass ⟨0, 0, 0, 0⟩)
noncomputable def fnA : Stmt → Arguments
  | .FunctionDef _ a _ _ _ _ _ _ _ _ => a
  | _ => { posonlyargs := [], args := [], vararg := none, kwonlyargs := [], kw_defaults := [], kwarg := none, defaults := [] }
noncomputable def fnB : Stmt → List Stmt
  | .FunctionDef _ _ b _ _ _ _ _ _ _ => b
  | _ => []
noncomputable def fnS : Stmt → Scope
  | .FunctionDef _ _ _ _ _ _ s _ _ _ => s
  | _ => { kind := .function, names := [], isGenerator := false, isCoroutine := false }
noncomputable def o0_11 (P : Params) : Obj := PySem.Obj.mk (PySem.Value.type "tuple") Option.none (PySem.Data.seq #[]) #[]
noncomputable def o0_12 (P : Params) : Obj := PySem.Obj.mk PySem.Value.none Option.none (PySem.Data.fields #[]) #[]
noncomputable def o0_13 (P : Params) : Obj := PySem.Obj.mk (PySem.Value.type "code") Option.none   (PySem.Data.fields     #[PySem.Value.str (PySem.Str.ofString "<module>") 182, PySem.Value.str (PySem.Str.ofString "<module>") 183,       PySem.Value.str (PySem.Str.ofString "/claim/cut.py") 184, PySem.Value.int 1 0, PySem.Value.int 0 0,       PySem.Value.int 0 0, PySem.Value.int 0 0, PySem.Value.int 0 0, PySem.Value.ref 11, PySem.Value.bool Bool.false,       PySem.Value.int 181 0, PySem.Value.ref 12, PySem.Value.none, PySem.Value.none, PySem.Value.none, PySem.Value.none,       PySem.Value.int 185 0, PySem.Value.int 1 0, PySem.Value.str (PySem.Str.ofString "/claim/cut.py") 186])   #[]
noncomputable def o0_14 (P : Params) : Obj := PySem.Obj.mk (PySem.Value.type "frame") Option.none PySem.Data.plain   #[Option.some (PySem.Value.ref 13), Option.some (PySem.Value.ref 3), Option.some (PySem.Value.ref 3), Option.none,     Option.some (PySem.Value.str (PySem.Str.ofString "__main__") 164), Option.none, Option.some (PySem.Value.ref 0)]
noncomputable def h0 (P : Params) : Heap := ⟨⟨[PySem.W.boot_o_0 P, PySem.W.boot_o_1 P, PySem.W.boot_o_2 P, PySem.W.boot_o_3 P, PySem.W.boot_o_4 P, PySem.W.boot_o_5 P, PySem.W.boot_o_6 P, PySem.W.boot_o_7 P, PySem.W.boot_o_8 P, PySem.W.boot_o_9 P, PySem.W.boot_o_10 P, o0_11 P, o0_12 P, o0_13 P, o0_14 P]⟩, PySem.Life.mk [] [] [] 0 [] [] Bool.false #[] [] 0 Bool.false Bool.false Bool.false 0 [2000, 10, 10] Bool.false 0   Bool.true [] [] 0 Bool.false⟩
noncomputable abbrev s0 (w : World) (os : OsState) : Shared := ⟨h0 w.params, ⟨[]⟩, PySem.Drawn.mk 0 0 0 0, 187, os⟩
noncomputable abbrev p0 : Pos := PySem.Pos.mk 0 0 0 0
noncomputable def h1 (P : Params) : Heap := ⟨⟨[PySem.W.boot_o_0 P, PySem.W.boot_o_1 P, PySem.W.boot_o_2 P, PySem.W.boot_o_3 P, PySem.W.boot_o_4 P, PySem.W.boot_o_5 P, PySem.W.boot_o_6 P, PySem.W.boot_o_7 P, PySem.W.boot_o_8 P, PySem.W.boot_o_9 P, PySem.W.boot_o_10 P, o0_11 P, o0_12 P, o0_13 P, o0_14 P]⟩, PySem.Life.mk [] [] [] 0 [] [] Bool.false #[] [] 0 Bool.false Bool.false Bool.false 0 [2000, 10, 10] Bool.false 0   Bool.true [] [] 0 Bool.false⟩
noncomputable abbrev s1 (w : World) (os : OsState) : Shared := ⟨h1 w.params, ⟨[]⟩, PySem.Drawn.mk 0 0 0 0, 187, os⟩
noncomputable abbrev p1 : Pos := PySem.Pos.mk 0 0 0 0
noncomputable def o2_3 (P : Params) : Obj := PySem.Obj.mk (PySem.Value.type "dict") Option.none   (PySem.Data.dict     #[PySem.DictEntry.mk (PySem.PyData.keyHash P (PySem.Str.ofString "__name__"))         (PySem.Value.str (PySem.Str.ofString "__name__") 165)         (PySem.Value.str (PySem.Str.ofString "proofkit.errors") 187),       PySem.DictEntry.mk (PySem.PyData.keyHash P (PySem.Str.ofString "__doc__"))         (PySem.Value.str (PySem.Str.ofString "__doc__") 166) PySem.Value.none,       PySem.DictEntry.mk (PySem.PyData.keyHash P (PySem.Str.ofString "__package__"))         (PySem.Value.str (PySem.Str.ofString "__package__") 167) PySem.Value.none,       PySem.DictEntry.mk (PySem.PyData.keyHash P (PySem.Str.ofString "__loader__"))         (PySem.Value.str (PySem.Str.ofString "__loader__") 168) (PySem.Value.builtin "__main__.__loader__#opaque"),       PySem.DictEntry.mk (PySem.PyData.keyHash P (PySem.Str.ofString "__spec__"))         (PySem.Value.str (PySem.Str.ofString "__spec__") 169) PySem.Value.none,       PySem.DictEntry.mk (PySem.PyData.keyHash P (PySem.Str.ofString "__annotations__"))         (PySem.Value.str (PySem.Str.ofString "__annotations__") 170) (PySem.Value.ref 6),       PySem.DictEntry.mk (PySem.PyData.keyHash P (PySem.Str.ofString "__builtins__"))         (PySem.Value.str (PySem.Str.ofString "__builtins__") 171) (PySem.Value.ref 4),       PySem.DictEntry.mk (PySem.PyData.keyHash P (PySem.Str.ofString "__file__"))         (PySem.Value.str (PySem.Str.ofString "__file__") 173)         (PySem.Value.str (PySem.Str.ofString "/claim/cut.py") 172),       PySem.DictEntry.mk (PySem.PyData.keyHash P (PySem.Str.ofString "__cached__"))         (PySem.Value.str (PySem.Str.ofString "__cached__") 174) PySem.Value.none,       PySem.DictEntry.mk (PySem.PyData.keyHash P (PySem.Str.ofString "LogicError"))         (PySem.Value.str (PySem.Str.ofString "LogicError") 206) (PySem.Value.ref 24)]     10)   #[]
noncomputable def o2_12 (P : Params) : Obj := PySem.Obj.mk PySem.Value.none Option.none   (PySem.Data.fields #[PySem.Value.int 2 0, PySem.Value.int 0 0, PySem.Value.ref 20]) #[]
noncomputable def o2_15 (P : Params) : Obj := PySem.Obj.mk (PySem.Value.type "tuple") Option.none (PySem.Data.seq #[PySem.Value.type "ValueError"]) #[]
noncomputable def o2_16 (P : Params) : Obj := PySem.Obj.mk (PySem.Value.type "builtin_function_or_method") Option.none   (PySem.Data.fields #[PySem.Value.builtin "type.__prepare__", PySem.Value.type "type"]) #[]
noncomputable def o2_17 (P : Params) : Obj := PySem.Obj.mk (PySem.Value.type "dict") Option.none   (PySem.Data.dict     #[PySem.DictEntry.mk (PySem.PyData.keyHash P (PySem.Str.ofString "__module__"))         (PySem.Value.str (PySem.Str.ofString "__module__") 196)         (PySem.Value.str (PySem.Str.ofString "proofkit.errors") 187),       PySem.DictEntry.mk (PySem.PyData.keyHash P (PySem.Str.ofString "__qualname__"))         (PySem.Value.str (PySem.Str.ofString "__qualname__") 198)         (PySem.Value.str (PySem.Str.ofString "LogicError") 197),       PySem.DictEntry.mk (PySem.PyData.keyHash P (PySem.Str.ofString "__firstlineno__"))         (PySem.Value.str (PySem.Str.ofString "__firstlineno__") 200) (PySem.Value.int 2 199),       PySem.DictEntry.mk (PySem.PyData.keyHash P (PySem.Str.ofString "__static_attributes__"))         (PySem.Value.str (PySem.Str.ofString "__static_attributes__") 201) (PySem.Value.ref 22)]     4)   #[]
noncomputable def o2_18 (P : Params) : Obj := PySem.Obj.mk (PySem.Value.type "tuple") Option.none (PySem.Data.seq #[]) #[]
noncomputable def o2_19 (P : Params) : Obj := PySem.Obj.mk PySem.Value.none Option.none (PySem.Data.fields #[]) #[]
noncomputable def o2_20 (P : Params) : Obj := PySem.Obj.mk (PySem.Value.type "code") Option.none   (PySem.Data.fields     #[PySem.Value.str (PySem.Str.ofString "LogicError") 191, PySem.Value.str (PySem.Str.ofString "LogicError") 192,       PySem.Value.str (PySem.Str.ofString "/claim/cut.py") 193, PySem.Value.int 2 0, PySem.Value.int 0 0,       PySem.Value.int 0 0, PySem.Value.int 0 0, PySem.Value.int 0 0, PySem.Value.ref 18, PySem.Value.bool Bool.false,       PySem.Value.int 181 0, PySem.Value.ref 19, PySem.Value.none, PySem.Value.none, PySem.Value.none, PySem.Value.none,       PySem.Value.int 194 0, PySem.Value.int 2 0, PySem.Value.str (PySem.Str.ofString "/claim/cut.py") 195])   #[]
noncomputable def o2_21 (P : Params) : Obj := PySem.Obj.mk (PySem.Value.type "frame") Option.none PySem.Data.plain   #[Option.some (PySem.Value.ref 20), Option.some (PySem.Value.ref 3), Option.some (PySem.Value.ref 17), Option.none,     Option.some (PySem.Value.str (PySem.Str.ofString "proofkit.errors") 187), Option.none,     Option.some (PySem.Value.ref 0)]
noncomputable def o2_22 (P : Params) : Obj := PySem.Obj.mk (PySem.Value.type "tuple") Option.none (PySem.Data.seq #[]) #[]
noncomputable def o2_23 (P : Params) : Obj := PySem.Obj.mk (PySem.Value.type "dict") Option.none   (PySem.Data.dict     #[PySem.DictEntry.mk (PySem.PyData.keyHash P (PySem.Str.ofString "__module__"))         (PySem.Value.str (PySem.Str.ofString "__module__") 196)         (PySem.Value.str (PySem.Str.ofString "proofkit.errors") 187),       PySem.DictEntry.mk (PySem.PyData.keyHash P (PySem.Str.ofString "__firstlineno__"))         (PySem.Value.str (PySem.Str.ofString "__firstlineno__") 200) (PySem.Value.int 2 199),       PySem.DictEntry.mk (PySem.PyData.keyHash P (PySem.Str.ofString "__static_attributes__"))         (PySem.Value.str (PySem.Str.ofString "__static_attributes__") 201) (PySem.Value.ref 22),       PySem.DictEntry.mk (PySem.PyData.keyHash P (PySem.Str.ofString "__weakref__"))         (PySem.Value.str (PySem.Str.ofString "__weakref__") 203) (PySem.Value.ref 25),       PySem.DictEntry.mk (PySem.PyData.keyHash P (PySem.Str.ofString "__doc__"))         (PySem.Value.str (PySem.Str.ofString "__doc__") 204) PySem.Value.none]     3)   #[]
noncomputable def o2_24 (P : Params) : Obj := PySem.Obj.mk (PySem.Value.type "type") Option.none   (PySem.Data.cls     (PySem.ClassData.mk (PySem.Str.ofString "LogicError") [PySem.Value.type "ValueError"]       [PySem.Value.ref 24, PySem.Value.type "ValueError", PySem.Value.type "Exception",         PySem.Value.type "BaseException", PySem.Value.type "object"]       23 (PySem.Str.ofString "LogicError") Bool.true [] [] Bool.false Option.none Bool.false))   #[Option.some (PySem.Value.ref 15), Option.none, Option.some (PySem.Value.str (PySem.Str.ofString "LogicError") 189),     Option.some (PySem.Value.str (PySem.Str.ofString "LogicError") 197),     Option.some (PySem.Value.builtin "ValueError.__new__"), Option.some (PySem.Value.bool Bool.true)]
noncomputable def o2_25 (P : Params) : Obj := PySem.Obj.mk (PySem.Value.type "getset_descriptor") Option.none   (PySem.Data.fields     #[PySem.Value.str (PySem.Str.ofString "__weakref__") 202, PySem.Value.ref 24,       PySem.Value.builtin "ExceptionGroup.__weakref__", PySem.Value.none])   #[]
noncomputable def o2_26 (P : Params) : Obj := PySem.Obj.mk (PySem.Value.type "super") Option.none   (PySem.Data.fields #[PySem.Value.ref 24, PySem.Value.ref 24, PySem.Value.ref 24]) #[]
noncomputable def o2_27 (P : Params) : Obj := PySem.Obj.mk (PySem.Value.type "builtin_function_or_method") Option.none   (PySem.Data.fields #[PySem.Value.builtin "object.__init_subclass__", PySem.Value.ref 24]) #[]
noncomputable def h2 (P : Params) : Heap := ⟨⟨[PySem.W.boot_o_0 P, PySem.W.boot_o_1 P, PySem.W.boot_o_2 P, o2_3 P, PySem.W.boot_o_4 P, PySem.W.boot_o_5 P, PySem.W.boot_o_6 P, PySem.W.boot_o_7 P, PySem.W.boot_o_8 P, PySem.W.boot_o_9 P, PySem.W.boot_o_10 P, o0_11 P, o2_12 P, o0_13 P, o0_14 P, o2_15 P, o2_16 P, o2_17 P, o2_18 P, o2_19 P, o2_20 P, o2_21 P, o2_22 P, o2_23 P, o2_24 P, o2_25 P, o2_26 P, o2_27 P]⟩, PySem.Life.mk [] [] [] 0 [] [] Bool.false #[] [] 0 Bool.false Bool.false Bool.false 0 [2000, 10, 10] Bool.false 0   Bool.true [] [] 0 Bool.false⟩
noncomputable abbrev s2 (w : World) (os : OsState) : Shared := ⟨h2 w.params, ⟨[]⟩, PySem.Drawn.mk 0 0 0 0, 207, os⟩
noncomputable abbrev p2 : Pos := PySem.Pos.mk 2 0 3 8
noncomputable def o3_3 (P : Params) : Obj := PySem.Obj.mk (PySem.Value.type "dict") Option.none   (PySem.Data.dict     #[PySem.DictEntry.mk (PySem.PyData.keyHash P (PySem.Str.ofString "__name__"))         (PySem.Value.str (PySem.Str.ofString "__name__") 165)         (PySem.Value.str (PySem.Str.ofString "proofkit.errors") 187),       PySem.DictEntry.mk (PySem.PyData.keyHash P (PySem.Str.ofString "__doc__"))         (PySem.Value.str (PySem.Str.ofString "__doc__") 166) PySem.Value.none,       PySem.DictEntry.mk (PySem.PyData.keyHash P (PySem.Str.ofString "__package__"))         (PySem.Value.str (PySem.Str.ofString "__package__") 167) PySem.Value.none,       PySem.DictEntry.mk (PySem.PyData.keyHash P (PySem.Str.ofString "__loader__"))         (PySem.Value.str (PySem.Str.ofString "__loader__") 168) (PySem.Value.builtin "__main__.__loader__#opaque"),       PySem.DictEntry.mk (PySem.PyData.keyHash P (PySem.Str.ofString "__spec__"))         (PySem.Value.str (PySem.Str.ofString "__spec__") 169) PySem.Value.none,       PySem.DictEntry.mk (PySem.PyData.keyHash P (PySem.Str.ofString "__annotations__"))         (PySem.Value.str (PySem.Str.ofString "__annotations__") 170) (PySem.Value.ref 6),       PySem.DictEntry.mk (PySem.PyData.keyHash P (PySem.Str.ofString "__builtins__"))         (PySem.Value.str (PySem.Str.ofString "__builtins__") 171) (PySem.Value.ref 4),       PySem.DictEntry.mk (PySem.PyData.keyHash P (PySem.Str.ofString "__file__"))         (PySem.Value.str (PySem.Str.ofString "__file__") 173)         (PySem.Value.str (PySem.Str.ofString "/claim/cut.py") 172),       PySem.DictEntry.mk (PySem.PyData.keyHash P (PySem.Str.ofString "__cached__"))         (PySem.Value.str (PySem.Str.ofString "__cached__") 174) PySem.Value.none,       PySem.DictEntry.mk (PySem.PyData.keyHash P (PySem.Str.ofString "LogicError"))         (PySem.Value.str (PySem.Str.ofString "LogicError") 206) (PySem.Value.ref 24),       PySem.DictEntry.mk (PySem.PyData.keyHash P (PySem.Str.ofString "ReadError"))         (PySem.Value.str (PySem.Str.ofString "ReadError") 233) (PySem.Value.ref 44)]     11)   #[]
noncomputable def o3_12 (P : Params) : Obj := PySem.Obj.mk PySem.Value.none Option.none   (PySem.Data.fields     #[PySem.Value.int 2 0, PySem.Value.int 0 0, PySem.Value.ref 20, PySem.Value.int 4 0, PySem.Value.int 0 0,       PySem.Value.ref 33])   #[]
noncomputable def o3_24 (P : Params) : Obj := PySem.Obj.mk (PySem.Value.type "type") Option.none   (PySem.Data.cls     (PySem.ClassData.mk (PySem.Str.ofString "LogicError") [PySem.Value.type "ValueError"]       [PySem.Value.ref 24, PySem.Value.type "ValueError", PySem.Value.type "Exception",         PySem.Value.type "BaseException", PySem.Value.type "object"]       23 (PySem.Str.ofString "LogicError") Bool.true [] [PySem.Value.ref 44] Bool.false Option.none Bool.false))   #[Option.some (PySem.Value.ref 15), Option.none, Option.some (PySem.Value.str (PySem.Str.ofString "LogicError") 189),     Option.some (PySem.Value.str (PySem.Str.ofString "LogicError") 197),     Option.some (PySem.Value.builtin "ValueError.__new__"), Option.some (PySem.Value.bool Bool.true)]
noncomputable def o3_28 (P : Params) : Obj := PySem.Obj.mk (PySem.Value.type "tuple") Option.none (PySem.Data.seq #[PySem.Value.ref 24]) #[]
noncomputable def o3_29 (P : Params) : Obj := PySem.Obj.mk (PySem.Value.type "builtin_function_or_method") Option.none   (PySem.Data.fields #[PySem.Value.builtin "type.__prepare__", PySem.Value.type "type"]) #[]
noncomputable def o3_30 (P : Params) : Obj := PySem.Obj.mk (PySem.Value.type "dict") Option.none   (PySem.Data.dict     #[PySem.DictEntry.mk (PySem.PyData.keyHash P (PySem.Str.ofString "__module__"))         (PySem.Value.str (PySem.Str.ofString "__module__") 214)         (PySem.Value.str (PySem.Str.ofString "proofkit.errors") 187),       PySem.DictEntry.mk (PySem.PyData.keyHash P (PySem.Str.ofString "__qualname__"))         (PySem.Value.str (PySem.Str.ofString "__qualname__") 216)         (PySem.Value.str (PySem.Str.ofString "ReadError") 215),       PySem.DictEntry.mk (PySem.PyData.keyHash P (PySem.Str.ofString "__firstlineno__"))         (PySem.Value.str (PySem.Str.ofString "__firstlineno__") 218) (PySem.Value.int 4 217),       PySem.DictEntry.mk (PySem.PyData.keyHash P (PySem.Str.ofString "__init__"))         (PySem.Value.str (PySem.Str.ofString "__init__") 227) (PySem.Value.ref 41),       PySem.DictEntry.mk (PySem.PyData.keyHash P (PySem.Str.ofString "__static_attributes__"))         (PySem.Value.str (PySem.Str.ofString "__static_attributes__") 230) (PySem.Value.ref 42)]     5)   #[]
noncomputable def o3_31 (P : Params) : Obj := PySem.Obj.mk (PySem.Value.type "tuple") Option.none (PySem.Data.seq #[]) #[]
noncomputable def o3_32 (P : Params) : Obj := PySem.Obj.mk PySem.Value.none Option.none   (PySem.Data.fields #[PySem.Value.int 6 0, PySem.Value.int 4 0, PySem.Value.ref 40]) #[]
noncomputable def o3_33 (P : Params) : Obj := PySem.Obj.mk (PySem.Value.type "code") Option.none   (PySem.Data.fields     #[PySem.Value.str (PySem.Str.ofString "ReadError") 209, PySem.Value.str (PySem.Str.ofString "ReadError") 210,       PySem.Value.str (PySem.Str.ofString "/claim/cut.py") 211, PySem.Value.int 4 0, PySem.Value.int 0 0,       PySem.Value.int 0 0, PySem.Value.int 0 0, PySem.Value.int 0 0, PySem.Value.ref 31, PySem.Value.bool Bool.false,       PySem.Value.int 181 0, PySem.Value.ref 32, PySem.Value.none, PySem.Value.none, PySem.Value.none, PySem.Value.none,       PySem.Value.int 212 0, PySem.Value.int 4 0, PySem.Value.str (PySem.Str.ofString "/claim/cut.py") 213])   #[]
noncomputable def o3_34 (P : Params) : Obj := PySem.Obj.mk (PySem.Value.type "frame") Option.none PySem.Data.plain   #[Option.some (PySem.Value.ref 33), Option.some (PySem.Value.ref 3), Option.some (PySem.Value.ref 30), Option.none,     Option.some (PySem.Value.str (PySem.Str.ofString "proofkit.errors") 187), Option.none,     Option.some (PySem.Value.ref 0)]
noncomputable def o3_35 (P : Params) : Obj := PySem.Obj.mk (PySem.Value.type "tuple") Option.none (PySem.Data.seq #[]) #[]
noncomputable def o3_36 (P : Params) : Obj := PySem.Obj.mk PySem.Value.none Option.none (PySem.Data.fields #[]) #[]
noncomputable def o3_37 (P : Params) : Obj := PySem.Obj.mk (PySem.Value.type "tuple") Option.none   (PySem.Data.seq     #[PySem.Value.str (PySem.Str.ofString "self") 222, PySem.Value.str (PySem.Str.ofString "why") 223,       PySem.Value.str (PySem.Str.ofString "place") 224])   #[]
noncomputable def o3_38 (P : Params) : Obj := PySem.Obj.mk (PySem.Value.type "tuple") Option.none (PySem.Data.seq #[]) #[]
noncomputable abbrev fa_c2_0 : Arguments := by
  refine' (fun (k : Arguments) (_ : fnA (mt 2 0) = k) => k) _ ?h
  case h => (conv => lhs; whnf)
noncomputable abbrev fb_c2_0 : List Stmt := by
  refine' (fun (k : List Stmt) (_ : fnB (mt 2 0) = k) => k) _ ?h
  case h => (conv => lhs; whnf)
noncomputable abbrev fs_c2_0 : Scope := by
  refine' (fun (k : Scope) (_ : fnS (mt 2 0) = k) => k) _ ?h
  case h => (conv => lhs; whnf)
noncomputable def o3_39 (P : Params) : Obj := PySem.Obj.mk PySem.Value.none Option.none   (PySem.Data.func     (PySem.FuncData.mk (PySem.Str.ofString "__init__") (PySem.Str.ofString "ReadError.__init__") fa_c2_0       (PySem.FuncBody.stmts fb_c2_0) fs_c2_0 0 [] PySem.Value.none PySem.Value.none PySem.Value.none PySem.Value.none       Option.none PySem.Value.none PySem.Value.none 0))   #[]
noncomputable def o3_40 (P : Params) : Obj := PySem.Obj.mk (PySem.Value.type "code") Option.none   (PySem.Data.fields     #[PySem.Value.str (PySem.Str.ofString "__init__") 219,       PySem.Value.str (PySem.Str.ofString "ReadError.__init__") 220,       PySem.Value.str (PySem.Str.ofString "/claim/cut.py") 221, PySem.Value.int 6 0, PySem.Value.int 3 0,       PySem.Value.int 0 0, PySem.Value.int 0 0, PySem.Value.int 3 0, PySem.Value.ref 35, PySem.Value.bool Bool.true,       PySem.Value.int 181 0, PySem.Value.ref 36, PySem.Value.none, PySem.Value.ref 37, PySem.Value.ref 38,       PySem.Value.ref 39, PySem.Value.int 225 0, PySem.Value.int 6 0,       PySem.Value.str (PySem.Str.ofString "/claim/cut.py") 226])   #[]
noncomputable def o3_41 (P : Params) : Obj := PySem.Obj.mk (PySem.Value.type "function") Option.none   (PySem.Data.func     (PySem.FuncData.mk (PySem.Str.ofString "__init__") (PySem.Str.ofString "ReadError.__init__") fa_c2_0       (PySem.FuncBody.stmts fb_c2_0) fs_c2_0 3 [] PySem.Value.none PySem.Value.none PySem.Value.none       (PySem.Value.str (PySem.Str.ofString "proofkit.errors") 187) Option.none (PySem.Value.ref 40) PySem.Value.none 0))   #[]
noncomputable def o3_42 (P : Params) : Obj := PySem.Obj.mk (PySem.Value.type "tuple") Option.none   (PySem.Data.seq #[PySem.Value.str (PySem.Str.ofString "place") 228, PySem.Value.str (PySem.Str.ofString "why") 229])   #[]
noncomputable def o3_43 (P : Params) : Obj := PySem.Obj.mk (PySem.Value.type "dict") Option.none   (PySem.Data.dict     #[PySem.DictEntry.mk (PySem.PyData.keyHash P (PySem.Str.ofString "__module__"))         (PySem.Value.str (PySem.Str.ofString "__module__") 214)         (PySem.Value.str (PySem.Str.ofString "proofkit.errors") 187),       PySem.DictEntry.mk (PySem.PyData.keyHash P (PySem.Str.ofString "__firstlineno__"))         (PySem.Value.str (PySem.Str.ofString "__firstlineno__") 218) (PySem.Value.int 4 217),       PySem.DictEntry.mk (PySem.PyData.keyHash P (PySem.Str.ofString "__init__"))         (PySem.Value.str (PySem.Str.ofString "__init__") 227) (PySem.Value.ref 41),       PySem.DictEntry.mk (PySem.PyData.keyHash P (PySem.Str.ofString "__static_attributes__"))         (PySem.Value.str (PySem.Str.ofString "__static_attributes__") 230) (PySem.Value.ref 42),       PySem.DictEntry.mk (PySem.PyData.keyHash P (PySem.Str.ofString "__doc__"))         (PySem.Value.str (PySem.Str.ofString "__doc__") 231) PySem.Value.none]     2)   #[]
noncomputable def o3_44 (P : Params) : Obj := PySem.Obj.mk (PySem.Value.type "type") Option.none   (PySem.Data.cls     (PySem.ClassData.mk (PySem.Str.ofString "ReadError") [PySem.Value.ref 24]       [PySem.Value.ref 44, PySem.Value.ref 24, PySem.Value.type "ValueError", PySem.Value.type "Exception",         PySem.Value.type "BaseException", PySem.Value.type "object"]       43 (PySem.Str.ofString "ReadError") Bool.true [] [] Bool.false Option.none Bool.false))   #[Option.some (PySem.Value.ref 28), Option.none, Option.some (PySem.Value.str (PySem.Str.ofString "ReadError") 207),     Option.some (PySem.Value.str (PySem.Str.ofString "ReadError") 215),     Option.some (PySem.Value.builtin "ValueError.__new__"), Option.some (PySem.Value.bool Bool.true)]
noncomputable def o3_45 (P : Params) : Obj := PySem.Obj.mk (PySem.Value.type "super") Option.none   (PySem.Data.fields #[PySem.Value.ref 44, PySem.Value.ref 44, PySem.Value.ref 44]) #[]
noncomputable def o3_46 (P : Params) : Obj := PySem.Obj.mk (PySem.Value.type "builtin_function_or_method") Option.none   (PySem.Data.fields #[PySem.Value.builtin "object.__init_subclass__", PySem.Value.ref 44]) #[]
noncomputable def h3 (P : Params) : Heap := ⟨⟨[PySem.W.boot_o_0 P, PySem.W.boot_o_1 P, PySem.W.boot_o_2 P, o3_3 P, PySem.W.boot_o_4 P, PySem.W.boot_o_5 P, PySem.W.boot_o_6 P, PySem.W.boot_o_7 P, PySem.W.boot_o_8 P, PySem.W.boot_o_9 P, PySem.W.boot_o_10 P, o0_11 P, o3_12 P, o0_13 P, o0_14 P, o2_15 P, o2_16 P, o2_17 P, o2_18 P, o2_19 P, o2_20 P, o2_21 P, o2_22 P, o2_23 P, o3_24 P, o2_25 P, o2_26 P, o2_27 P, o3_28 P, o3_29 P, o3_30 P, o3_31 P, o3_32 P, o3_33 P, o3_34 P, o3_35 P, o3_36 P, o3_37 P, o3_38 P, o3_39 P, o3_40 P, o3_41 P, o3_42 P, o3_43 P, o3_44 P, o3_45 P, o3_46 P]⟩, PySem.Life.mk [] [] [] 0 [] [] Bool.false #[] [] 0 Bool.false Bool.false Bool.false 0 [2000, 10, 10] Bool.false 0   Bool.true [] [] 0 Bool.false⟩
noncomputable abbrev s3 (w : World) (os : OsState) : Shared := ⟨h3 w.params, ⟨[]⟩, PySem.Drawn.mk 0 0 0 0, 234, os⟩
noncomputable abbrev p3 : Pos := PySem.Pos.mk 4 0 9 26
noncomputable def o4_3 (P : Params) : Obj := PySem.Obj.mk (PySem.Value.type "dict") Option.none   (PySem.Data.dict     #[PySem.DictEntry.mk (PySem.PyData.keyHash P (PySem.Str.ofString "__name__"))         (PySem.Value.str (PySem.Str.ofString "__name__") 165)         (PySem.Value.str (PySem.Str.ofString "proofkit.reader") 246),       PySem.DictEntry.mk (PySem.PyData.keyHash P (PySem.Str.ofString "__doc__"))         (PySem.Value.str (PySem.Str.ofString "__doc__") 166) PySem.Value.none,       PySem.DictEntry.mk (PySem.PyData.keyHash P (PySem.Str.ofString "__package__"))         (PySem.Value.str (PySem.Str.ofString "__package__") 167) PySem.Value.none,       PySem.DictEntry.mk (PySem.PyData.keyHash P (PySem.Str.ofString "__loader__"))         (PySem.Value.str (PySem.Str.ofString "__loader__") 168) (PySem.Value.builtin "__main__.__loader__#opaque"),       PySem.DictEntry.mk (PySem.PyData.keyHash P (PySem.Str.ofString "__spec__"))         (PySem.Value.str (PySem.Str.ofString "__spec__") 169) PySem.Value.none,       PySem.DictEntry.mk (PySem.PyData.keyHash P (PySem.Str.ofString "__annotations__"))         (PySem.Value.str (PySem.Str.ofString "__annotations__") 170) (PySem.Value.ref 6),       PySem.DictEntry.mk (PySem.PyData.keyHash P (PySem.Str.ofString "__builtins__"))         (PySem.Value.str (PySem.Str.ofString "__builtins__") 171) (PySem.Value.ref 4),       PySem.DictEntry.mk (PySem.PyData.keyHash P (PySem.Str.ofString "__file__"))         (PySem.Value.str (PySem.Str.ofString "__file__") 173)         (PySem.Value.str (PySem.Str.ofString "/claim/cut.py") 172),       PySem.DictEntry.mk (PySem.PyData.keyHash P (PySem.Str.ofString "__cached__"))         (PySem.Value.str (PySem.Str.ofString "__cached__") 174) PySem.Value.none,       PySem.DictEntry.mk (PySem.PyData.keyHash P (PySem.Str.ofString "LogicError"))         (PySem.Value.str (PySem.Str.ofString "LogicError") 206) (PySem.Value.ref 24),       PySem.DictEntry.mk (PySem.PyData.keyHash P (PySem.Str.ofString "ReadError"))         (PySem.Value.str (PySem.Str.ofString "ReadError") 233) (PySem.Value.ref 44),       PySem.DictEntry.mk (PySem.PyData.keyHash P (PySem.Str.ofString "show"))         (PySem.Value.str (PySem.Str.ofString "show") 241) (PySem.Value.ref 51),       PySem.DictEntry.mk (PySem.PyData.keyHash P (PySem.Str.ofString "show_terms"))         (PySem.Value.str (PySem.Str.ofString "show_terms") 242) (PySem.Value.ref 51),       PySem.DictEntry.mk (PySem.PyData.keyHash P (PySem.Str.ofString "BINDERS"))         (PySem.Value.str (PySem.Str.ofString "BINDERS") 245) (PySem.Value.ref 52),       PySem.DictEntry.mk (PySem.PyData.keyHash P (PySem.Str.ofString "DEEP"))         (PySem.Value.str (PySem.Str.ofString "DEEP") 249) (PySem.Value.int 80 248),       PySem.DictEntry.mk (PySem.PyData.keyHash P (PySem.Str.ofString "SIGNS"))         (PySem.Value.str (PySem.Str.ofString "SIGNS") 260) (PySem.Value.ref 53),       PySem.DictEntry.mk (PySem.PyData.keyHash P (PySem.Str.ofString "is_letter"))         (PySem.Value.str (PySem.Str.ofString "is_letter") 267) (PySem.Value.ref 60),       PySem.DictEntry.mk (PySem.PyData.keyHash P (PySem.Str.ofString "is_rest"))         (PySem.Value.str (PySem.Str.ofString "is_rest") 274) (PySem.Value.ref 67),       PySem.DictEntry.mk (PySem.PyData.keyHash P (PySem.Str.ofString "tokens"))         (PySem.Value.str (PySem.Str.ofString "tokens") 286) (PySem.Value.ref 74),       PySem.DictEntry.mk (PySem.PyData.keyHash P (PySem.Str.ofString "is_variable"))         (PySem.Value.str (PySem.Str.ofString "is_variable") 293) (PySem.Value.ref 81)]     20)   #[]
noncomputable def o4_12 (P : Params) : Obj := PySem.Obj.mk PySem.Value.none Option.none   (PySem.Data.fields     #[PySem.Value.int 2 0, PySem.Value.int 0 0, PySem.Value.ref 20, PySem.Value.int 4 0, PySem.Value.int 0 0,       PySem.Value.ref 33, PySem.Value.int 11 0, PySem.Value.int 0 0, PySem.Value.ref 50, PySem.Value.int 20 0,       PySem.Value.int 0 0, PySem.Value.ref 59, PySem.Value.int 22 0, PySem.Value.int 0 0, PySem.Value.ref 66,       PySem.Value.int 24 0, PySem.Value.int 0 0, PySem.Value.ref 73, PySem.Value.int 48 0, PySem.Value.int 0 0,       PySem.Value.ref 80])   #[]
noncomputable def o4_47 (P : Params) : Obj := PySem.Obj.mk (PySem.Value.type "tuple") Option.none (PySem.Data.seq #[]) #[]
noncomputable def o4_48 (P : Params) : Obj := PySem.Obj.mk PySem.Value.none Option.none (PySem.Data.fields #[]) #[]
noncomputable abbrev fa_t4 : Arguments := by
  refine' (fun (k : Arguments) (_ : fnA (st 4) = k) => k) _ ?h
  case h => (conv => lhs; whnf)
noncomputable abbrev fb_t4 : List Stmt := by
  refine' (fun (k : List Stmt) (_ : fnB (st 4) = k) => k) _ ?h
  case h => (conv => lhs; whnf)
noncomputable abbrev fs_t4 : Scope := by
  refine' (fun (k : Scope) (_ : fnS (st 4) = k) => k) _ ?h
  case h => (conv => lhs; whnf)
noncomputable def o4_49 (P : Params) : Obj := PySem.Obj.mk PySem.Value.none Option.none   (PySem.Data.func     (PySem.FuncData.mk (PySem.Str.ofString "show") (PySem.Str.ofString "show") fa_t4 (PySem.FuncBody.stmts fb_t4) fs_t4       0 [] PySem.Value.none PySem.Value.none PySem.Value.none PySem.Value.none Option.none PySem.Value.none       PySem.Value.none 0))   #[]
noncomputable def o4_50 (P : Params) : Obj := PySem.Obj.mk (PySem.Value.type "code") Option.none   (PySem.Data.fields     #[PySem.Value.str (PySem.Str.ofString "show") 236, PySem.Value.str (PySem.Str.ofString "show") 237,       PySem.Value.str (PySem.Str.ofString "/claim/cut.py") 238, PySem.Value.int 11 0, PySem.Value.int 1 0,       PySem.Value.int 0 0, PySem.Value.int 0 0, PySem.Value.int 3 0, PySem.Value.ref 47, PySem.Value.bool Bool.true,       PySem.Value.int 181 0, PySem.Value.ref 48, PySem.Value.none, PySem.Value.none, PySem.Value.none,       PySem.Value.ref 49, PySem.Value.int 239 0, PySem.Value.int 11 0,       PySem.Value.str (PySem.Str.ofString "/claim/cut.py") 240])   #[]
noncomputable def o4_51 (P : Params) : Obj := PySem.Obj.mk (PySem.Value.type "function") Option.none   (PySem.Data.func     (PySem.FuncData.mk (PySem.Str.ofString "show") (PySem.Str.ofString "show") fa_t4 (PySem.FuncBody.stmts fb_t4) fs_t4       3 [] PySem.Value.none PySem.Value.none PySem.Value.none       (PySem.Value.str (PySem.Str.ofString "proofkit.terms") 234) Option.none (PySem.Value.ref 50) PySem.Value.none 0))   #[]
noncomputable def o4_52 (P : Params) : Obj := PySem.Obj.mk (PySem.Value.type "tuple") Option.none   (PySem.Data.seq #[PySem.Value.str (PySem.Str.ofString "all") 243, PySem.Value.str (PySem.Str.ofString "some") 244])   #[]
noncomputable def o4_53 (P : Params) : Obj := PySem.Obj.mk (PySem.Value.type "list") Option.none   (PySem.Data.seq     #[PySem.Value.str (PySem.Str.ofString "<->") 250, PySem.Value.str (PySem.Str.ofString "->") 251,       PySem.Value.str (PySem.Str.ofString "~") 252, PySem.Value.str (PySem.Str.ofString "&") 253,       PySem.Value.str (PySem.Str.ofString "|") 254, PySem.Value.str (PySem.Str.ofString "=") 255,       PySem.Value.str (PySem.Str.ofString "(") 256, PySem.Value.str (PySem.Str.ofString ")") 257,       PySem.Value.str (PySem.Str.ofString ",") 258, PySem.Value.str (PySem.Str.ofString ".") 259])   #[]
noncomputable def o4_54 (P : Params) : Obj := PySem.Obj.mk (PySem.Value.type "tuple") Option.none (PySem.Data.seq #[]) #[]
noncomputable def o4_55 (P : Params) : Obj := PySem.Obj.mk PySem.Value.none Option.none (PySem.Data.fields #[]) #[]
noncomputable def o4_56 (P : Params) : Obj := PySem.Obj.mk (PySem.Value.type "tuple") Option.none (PySem.Data.seq #[PySem.Value.str (PySem.Str.ofString "sign") 264])   #[]
noncomputable def o4_57 (P : Params) : Obj := PySem.Obj.mk (PySem.Value.type "tuple") Option.none (PySem.Data.seq #[]) #[]
noncomputable abbrev fa_t10 : Arguments := by
  refine' (fun (k : Arguments) (_ : fnA (st 10) = k) => k) _ ?h
  case h => (conv => lhs; whnf)
noncomputable abbrev fb_t10 : List Stmt := by
  refine' (fun (k : List Stmt) (_ : fnB (st 10) = k) => k) _ ?h
  case h => (conv => lhs; whnf)
noncomputable abbrev fs_t10 : Scope := by
  refine' (fun (k : Scope) (_ : fnS (st 10) = k) => k) _ ?h
  case h => (conv => lhs; whnf)
noncomputable def o4_58 (P : Params) : Obj := PySem.Obj.mk PySem.Value.none Option.none   (PySem.Data.func     (PySem.FuncData.mk (PySem.Str.ofString "is_letter") (PySem.Str.ofString "is_letter") fa_t10       (PySem.FuncBody.stmts fb_t10) fs_t10 0 [] PySem.Value.none PySem.Value.none PySem.Value.none PySem.Value.none       Option.none PySem.Value.none PySem.Value.none 0))   #[]
noncomputable def o4_59 (P : Params) : Obj := PySem.Obj.mk (PySem.Value.type "code") Option.none   (PySem.Data.fields     #[PySem.Value.str (PySem.Str.ofString "is_letter") 261, PySem.Value.str (PySem.Str.ofString "is_letter") 262,       PySem.Value.str (PySem.Str.ofString "/claim/cut.py") 263, PySem.Value.int 20 0, PySem.Value.int 1 0,       PySem.Value.int 0 0, PySem.Value.int 0 0, PySem.Value.int 3 0, PySem.Value.ref 54, PySem.Value.bool Bool.true,       PySem.Value.int 181 0, PySem.Value.ref 55, PySem.Value.none, PySem.Value.ref 56, PySem.Value.ref 57,       PySem.Value.ref 58, PySem.Value.int 265 0, PySem.Value.int 20 0,       PySem.Value.str (PySem.Str.ofString "/claim/cut.py") 266])   #[]
noncomputable def o4_60 (P : Params) : Obj := PySem.Obj.mk (PySem.Value.type "function") Option.none   (PySem.Data.func     (PySem.FuncData.mk (PySem.Str.ofString "is_letter") (PySem.Str.ofString "is_letter") fa_t10       (PySem.FuncBody.stmts fb_t10) fs_t10 3 [] PySem.Value.none PySem.Value.none PySem.Value.none       (PySem.Value.str (PySem.Str.ofString "proofkit.reader") 246) Option.none (PySem.Value.ref 59) PySem.Value.none 0))   #[]
noncomputable def o4_61 (P : Params) : Obj := PySem.Obj.mk (PySem.Value.type "tuple") Option.none (PySem.Data.seq #[]) #[]
noncomputable def o4_62 (P : Params) : Obj := PySem.Obj.mk PySem.Value.none Option.none (PySem.Data.fields #[]) #[]
noncomputable def o4_63 (P : Params) : Obj := PySem.Obj.mk (PySem.Value.type "tuple") Option.none (PySem.Data.seq #[PySem.Value.str (PySem.Str.ofString "sign") 271])   #[]
noncomputable def o4_64 (P : Params) : Obj := PySem.Obj.mk (PySem.Value.type "tuple") Option.none (PySem.Data.seq #[]) #[]
noncomputable abbrev fa_t11 : Arguments := by
  refine' (fun (k : Arguments) (_ : fnA (st 11) = k) => k) _ ?h
  case h => (conv => lhs; whnf)
noncomputable abbrev fb_t11 : List Stmt := by
  refine' (fun (k : List Stmt) (_ : fnB (st 11) = k) => k) _ ?h
  case h => (conv => lhs; whnf)
noncomputable abbrev fs_t11 : Scope := by
  refine' (fun (k : Scope) (_ : fnS (st 11) = k) => k) _ ?h
  case h => (conv => lhs; whnf)
noncomputable def o4_65 (P : Params) : Obj := PySem.Obj.mk PySem.Value.none Option.none   (PySem.Data.func     (PySem.FuncData.mk (PySem.Str.ofString "is_rest") (PySem.Str.ofString "is_rest") fa_t11       (PySem.FuncBody.stmts fb_t11) fs_t11 0 [] PySem.Value.none PySem.Value.none PySem.Value.none PySem.Value.none       Option.none PySem.Value.none PySem.Value.none 0))   #[]
noncomputable def o4_66 (P : Params) : Obj := PySem.Obj.mk (PySem.Value.type "code") Option.none   (PySem.Data.fields     #[PySem.Value.str (PySem.Str.ofString "is_rest") 268, PySem.Value.str (PySem.Str.ofString "is_rest") 269,       PySem.Value.str (PySem.Str.ofString "/claim/cut.py") 270, PySem.Value.int 22 0, PySem.Value.int 1 0,       PySem.Value.int 0 0, PySem.Value.int 0 0, PySem.Value.int 3 0, PySem.Value.ref 61, PySem.Value.bool Bool.true,       PySem.Value.int 181 0, PySem.Value.ref 62, PySem.Value.none, PySem.Value.ref 63, PySem.Value.ref 64,       PySem.Value.ref 65, PySem.Value.int 272 0, PySem.Value.int 22 0,       PySem.Value.str (PySem.Str.ofString "/claim/cut.py") 273])   #[]
noncomputable def o4_67 (P : Params) : Obj := PySem.Obj.mk (PySem.Value.type "function") Option.none   (PySem.Data.func     (PySem.FuncData.mk (PySem.Str.ofString "is_rest") (PySem.Str.ofString "is_rest") fa_t11       (PySem.FuncBody.stmts fb_t11) fs_t11 3 [] PySem.Value.none PySem.Value.none PySem.Value.none       (PySem.Value.str (PySem.Str.ofString "proofkit.reader") 246) Option.none (PySem.Value.ref 66) PySem.Value.none 0))   #[]
noncomputable def o4_68 (P : Params) : Obj := PySem.Obj.mk (PySem.Value.type "tuple") Option.none (PySem.Data.seq #[]) #[]
noncomputable def o4_69 (P : Params) : Obj := PySem.Obj.mk PySem.Value.none Option.none (PySem.Data.fields #[]) #[]
noncomputable def o4_70 (P : Params) : Obj := PySem.Obj.mk (PySem.Value.type "tuple") Option.none   (PySem.Data.seq     #[PySem.Value.str (PySem.Str.ofString "text") 278, PySem.Value.str (PySem.Str.ofString "out") 279,       PySem.Value.str (PySem.Str.ofString "i") 280, PySem.Value.str (PySem.Str.ofString "j") 281,       PySem.Value.str (PySem.Str.ofString "found") 282, PySem.Value.str (PySem.Str.ofString "sign") 283])   #[]
noncomputable def o4_71 (P : Params) : Obj := PySem.Obj.mk (PySem.Value.type "tuple") Option.none (PySem.Data.seq #[]) #[]
noncomputable abbrev fa_t12 : Arguments := by
  refine' (fun (k : Arguments) (_ : fnA (st 12) = k) => k) _ ?h
  case h => (conv => lhs; whnf)
noncomputable abbrev fb_t12 : List Stmt := by
  refine' (fun (k : List Stmt) (_ : fnB (st 12) = k) => k) _ ?h
  case h => (conv => lhs; whnf)
noncomputable abbrev fs_t12 : Scope := by
  refine' (fun (k : Scope) (_ : fnS (st 12) = k) => k) _ ?h
  case h => (conv => lhs; whnf)
noncomputable def o4_72 (P : Params) : Obj := PySem.Obj.mk PySem.Value.none Option.none   (PySem.Data.func     (PySem.FuncData.mk (PySem.Str.ofString "tokens") (PySem.Str.ofString "tokens") fa_t12 (PySem.FuncBody.stmts fb_t12)       fs_t12 0 [] PySem.Value.none PySem.Value.none PySem.Value.none PySem.Value.none Option.none PySem.Value.none       PySem.Value.none 0))   #[]
noncomputable def o4_73 (P : Params) : Obj := PySem.Obj.mk (PySem.Value.type "code") Option.none   (PySem.Data.fields     #[PySem.Value.str (PySem.Str.ofString "tokens") 275, PySem.Value.str (PySem.Str.ofString "tokens") 276,       PySem.Value.str (PySem.Str.ofString "/claim/cut.py") 277, PySem.Value.int 24 0, PySem.Value.int 1 0,       PySem.Value.int 0 0, PySem.Value.int 0 0, PySem.Value.int 3 0, PySem.Value.ref 68, PySem.Value.bool Bool.true,       PySem.Value.int 181 0, PySem.Value.ref 69, PySem.Value.none, PySem.Value.ref 70, PySem.Value.ref 71,       PySem.Value.ref 72, PySem.Value.int 284 0, PySem.Value.int 24 0,       PySem.Value.str (PySem.Str.ofString "/claim/cut.py") 285])   #[]
noncomputable def o4_74 (P : Params) : Obj := PySem.Obj.mk (PySem.Value.type "function") Option.none   (PySem.Data.func     (PySem.FuncData.mk (PySem.Str.ofString "tokens") (PySem.Str.ofString "tokens") fa_t12 (PySem.FuncBody.stmts fb_t12)       fs_t12 3 [] PySem.Value.none PySem.Value.none PySem.Value.none       (PySem.Value.str (PySem.Str.ofString "proofkit.reader") 246) Option.none (PySem.Value.ref 73) PySem.Value.none 0))   #[]
noncomputable def o4_75 (P : Params) : Obj := PySem.Obj.mk (PySem.Value.type "tuple") Option.none (PySem.Data.seq #[]) #[]
noncomputable def o4_76 (P : Params) : Obj := PySem.Obj.mk PySem.Value.none Option.none (PySem.Data.fields #[]) #[]
noncomputable def o4_77 (P : Params) : Obj := PySem.Obj.mk (PySem.Value.type "tuple") Option.none (PySem.Data.seq #[PySem.Value.str (PySem.Str.ofString "name") 290])   #[]
noncomputable def o4_78 (P : Params) : Obj := PySem.Obj.mk (PySem.Value.type "tuple") Option.none (PySem.Data.seq #[]) #[]
noncomputable abbrev fa_t13 : Arguments := by
  refine' (fun (k : Arguments) (_ : fnA (st 13) = k) => k) _ ?h
  case h => (conv => lhs; whnf)
noncomputable abbrev fb_t13 : List Stmt := by
  refine' (fun (k : List Stmt) (_ : fnB (st 13) = k) => k) _ ?h
  case h => (conv => lhs; whnf)
noncomputable abbrev fs_t13 : Scope := by
  refine' (fun (k : Scope) (_ : fnS (st 13) = k) => k) _ ?h
  case h => (conv => lhs; whnf)
noncomputable def o4_79 (P : Params) : Obj := PySem.Obj.mk PySem.Value.none Option.none   (PySem.Data.func     (PySem.FuncData.mk (PySem.Str.ofString "is_variable") (PySem.Str.ofString "is_variable") fa_t13       (PySem.FuncBody.stmts fb_t13) fs_t13 0 [] PySem.Value.none PySem.Value.none PySem.Value.none PySem.Value.none       Option.none PySem.Value.none PySem.Value.none 0))   #[]
noncomputable def o4_80 (P : Params) : Obj := PySem.Obj.mk (PySem.Value.type "code") Option.none   (PySem.Data.fields     #[PySem.Value.str (PySem.Str.ofString "is_variable") 287, PySem.Value.str (PySem.Str.ofString "is_variable") 288,       PySem.Value.str (PySem.Str.ofString "/claim/cut.py") 289, PySem.Value.int 48 0, PySem.Value.int 1 0,       PySem.Value.int 0 0, PySem.Value.int 0 0, PySem.Value.int 3 0, PySem.Value.ref 75, PySem.Value.bool Bool.true,       PySem.Value.int 181 0, PySem.Value.ref 76, PySem.Value.none, PySem.Value.ref 77, PySem.Value.ref 78,       PySem.Value.ref 79, PySem.Value.int 291 0, PySem.Value.int 48 0,       PySem.Value.str (PySem.Str.ofString "/claim/cut.py") 292])   #[]
noncomputable def o4_81 (P : Params) : Obj := PySem.Obj.mk (PySem.Value.type "function") Option.none   (PySem.Data.func     (PySem.FuncData.mk (PySem.Str.ofString "is_variable") (PySem.Str.ofString "is_variable") fa_t13       (PySem.FuncBody.stmts fb_t13) fs_t13 3 [] PySem.Value.none PySem.Value.none PySem.Value.none       (PySem.Value.str (PySem.Str.ofString "proofkit.reader") 246) Option.none (PySem.Value.ref 80) PySem.Value.none 0))   #[]
noncomputable def h4 (P : Params) : Heap := ⟨⟨[PySem.W.boot_o_0 P, PySem.W.boot_o_1 P, PySem.W.boot_o_2 P, o4_3 P, PySem.W.boot_o_4 P, PySem.W.boot_o_5 P, PySem.W.boot_o_6 P, PySem.W.boot_o_7 P, PySem.W.boot_o_8 P, PySem.W.boot_o_9 P, PySem.W.boot_o_10 P, o0_11 P, o4_12 P, o0_13 P, o0_14 P, o2_15 P, o2_16 P, o2_17 P, o2_18 P, o2_19 P, o2_20 P, o2_21 P, o2_22 P, o2_23 P, o3_24 P, o2_25 P, o2_26 P, o2_27 P, o3_28 P, o3_29 P, o3_30 P, o3_31 P, o3_32 P, o3_33 P, o3_34 P, o3_35 P, o3_36 P, o3_37 P, o3_38 P, o3_39 P, o3_40 P, o3_41 P, o3_42 P, o3_43 P, o3_44 P, o3_45 P, o3_46 P, o4_47 P, o4_48 P, o4_49 P, o4_50 P, o4_51 P, o4_52 P, o4_53 P, o4_54 P, o4_55 P, o4_56 P, o4_57 P, o4_58 P, o4_59 P, o4_60 P, o4_61 P, o4_62 P, o4_63 P, o4_64 P, o4_65 P, o4_66 P, o4_67 P, o4_68 P, o4_69 P, o4_70 P, o4_71 P, o4_72 P, o4_73 P, o4_74 P, o4_75 P, o4_76 P, o4_77 P, o4_78 P, o4_79 P, o4_80 P, o4_81 P]⟩, PySem.Life.mk [] [] [] 0 [] [] Bool.false #[] [] 0 Bool.false Bool.false Bool.false 0 [2000, 10, 10] Bool.false 0   Bool.true [] [] 0 Bool.false⟩
noncomputable abbrev s4 (w : World) (os : OsState) : Shared := ⟨h4 w.params, ⟨[]⟩, PySem.Drawn.mk 0 0 0 0, 294, os⟩
noncomputable abbrev p4 : Pos := PySem.Pos.mk 48 0 49 32
noncomputable def o5_3 (P : Params) : Obj := PySem.Obj.mk (PySem.Value.type "dict") Option.none   (PySem.Data.dict     #[PySem.DictEntry.mk (PySem.PyData.keyHash P (PySem.Str.ofString "__name__"))         (PySem.Value.str (PySem.Str.ofString "__name__") 165)         (PySem.Value.str (PySem.Str.ofString "proofkit.reader") 246),       PySem.DictEntry.mk (PySem.PyData.keyHash P (PySem.Str.ofString "__doc__"))         (PySem.Value.str (PySem.Str.ofString "__doc__") 166) PySem.Value.none,       PySem.DictEntry.mk (PySem.PyData.keyHash P (PySem.Str.ofString "__package__"))         (PySem.Value.str (PySem.Str.ofString "__package__") 167) PySem.Value.none,       PySem.DictEntry.mk (PySem.PyData.keyHash P (PySem.Str.ofString "__loader__"))         (PySem.Value.str (PySem.Str.ofString "__loader__") 168) (PySem.Value.builtin "__main__.__loader__#opaque"),       PySem.DictEntry.mk (PySem.PyData.keyHash P (PySem.Str.ofString "__spec__"))         (PySem.Value.str (PySem.Str.ofString "__spec__") 169) PySem.Value.none,       PySem.DictEntry.mk (PySem.PyData.keyHash P (PySem.Str.ofString "__annotations__"))         (PySem.Value.str (PySem.Str.ofString "__annotations__") 170) (PySem.Value.ref 6),       PySem.DictEntry.mk (PySem.PyData.keyHash P (PySem.Str.ofString "__builtins__"))         (PySem.Value.str (PySem.Str.ofString "__builtins__") 171) (PySem.Value.ref 4),       PySem.DictEntry.mk (PySem.PyData.keyHash P (PySem.Str.ofString "__file__"))         (PySem.Value.str (PySem.Str.ofString "__file__") 173)         (PySem.Value.str (PySem.Str.ofString "/claim/cut.py") 172),       PySem.DictEntry.mk (PySem.PyData.keyHash P (PySem.Str.ofString "__cached__"))         (PySem.Value.str (PySem.Str.ofString "__cached__") 174) PySem.Value.none,       PySem.DictEntry.mk (PySem.PyData.keyHash P (PySem.Str.ofString "LogicError"))         (PySem.Value.str (PySem.Str.ofString "LogicError") 206) (PySem.Value.ref 24),       PySem.DictEntry.mk (PySem.PyData.keyHash P (PySem.Str.ofString "ReadError"))         (PySem.Value.str (PySem.Str.ofString "ReadError") 233) (PySem.Value.ref 44),       PySem.DictEntry.mk (PySem.PyData.keyHash P (PySem.Str.ofString "show"))         (PySem.Value.str (PySem.Str.ofString "show") 241) (PySem.Value.ref 51),       PySem.DictEntry.mk (PySem.PyData.keyHash P (PySem.Str.ofString "show_terms"))         (PySem.Value.str (PySem.Str.ofString "show_terms") 242) (PySem.Value.ref 51),       PySem.DictEntry.mk (PySem.PyData.keyHash P (PySem.Str.ofString "BINDERS"))         (PySem.Value.str (PySem.Str.ofString "BINDERS") 245) (PySem.Value.ref 52),       PySem.DictEntry.mk (PySem.PyData.keyHash P (PySem.Str.ofString "DEEP"))         (PySem.Value.str (PySem.Str.ofString "DEEP") 249) (PySem.Value.int 80 248),       PySem.DictEntry.mk (PySem.PyData.keyHash P (PySem.Str.ofString "SIGNS"))         (PySem.Value.str (PySem.Str.ofString "SIGNS") 260) (PySem.Value.ref 53),       PySem.DictEntry.mk (PySem.PyData.keyHash P (PySem.Str.ofString "is_letter"))         (PySem.Value.str (PySem.Str.ofString "is_letter") 267) (PySem.Value.ref 60),       PySem.DictEntry.mk (PySem.PyData.keyHash P (PySem.Str.ofString "is_rest"))         (PySem.Value.str (PySem.Str.ofString "is_rest") 274) (PySem.Value.ref 67),       PySem.DictEntry.mk (PySem.PyData.keyHash P (PySem.Str.ofString "tokens"))         (PySem.Value.str (PySem.Str.ofString "tokens") 286) (PySem.Value.ref 74),       PySem.DictEntry.mk (PySem.PyData.keyHash P (PySem.Str.ofString "is_variable"))         (PySem.Value.str (PySem.Str.ofString "is_variable") 293) (PySem.Value.ref 81),       PySem.DictEntry.mk (PySem.PyData.keyHash P (PySem.Str.ofString "Reader"))         (PySem.Value.str (PySem.Str.ofString "Reader") 450) (PySem.Value.ref 203)]     21)   #[]
noncomputable def o5_12 (P : Params) : Obj := PySem.Obj.mk PySem.Value.none Option.none   (PySem.Data.fields     #[PySem.Value.int 2 0, PySem.Value.int 0 0, PySem.Value.ref 20, PySem.Value.int 4 0, PySem.Value.int 0 0,       PySem.Value.ref 33, PySem.Value.int 11 0, PySem.Value.int 0 0, PySem.Value.ref 50, PySem.Value.int 20 0,       PySem.Value.int 0 0, PySem.Value.ref 59, PySem.Value.int 22 0, PySem.Value.int 0 0, PySem.Value.ref 66,       PySem.Value.int 24 0, PySem.Value.int 0 0, PySem.Value.ref 73, PySem.Value.int 48 0, PySem.Value.int 0 0,       PySem.Value.ref 80, PySem.Value.int 50 0, PySem.Value.int 0 0, PySem.Value.ref 87])   #[]
noncomputable def o5_82 (P : Params) : Obj := PySem.Obj.mk (PySem.Value.type "tuple") Option.none (PySem.Data.seq #[]) #[]
noncomputable def o5_83 (P : Params) : Obj := PySem.Obj.mk (PySem.Value.type "builtin_function_or_method") Option.none   (PySem.Data.fields #[PySem.Value.builtin "type.__prepare__", PySem.Value.type "type"]) #[]
noncomputable def o5_84 (P : Params) : Obj := PySem.Obj.mk (PySem.Value.type "dict") Option.none   (PySem.Data.dict     #[PySem.DictEntry.mk (PySem.PyData.keyHash P (PySem.Str.ofString "__module__"))         (PySem.Value.str (PySem.Str.ofString "__module__") 301)         (PySem.Value.str (PySem.Str.ofString "proofkit.reader") 246),       PySem.DictEntry.mk (PySem.PyData.keyHash P (PySem.Str.ofString "__qualname__"))         (PySem.Value.str (PySem.Str.ofString "__qualname__") 303) (PySem.Value.str (PySem.Str.ofString "Reader") 302),       PySem.DictEntry.mk (PySem.PyData.keyHash P (PySem.Str.ofString "__firstlineno__"))         (PySem.Value.str (PySem.Str.ofString "__firstlineno__") 305) (PySem.Value.int 50 304),       PySem.DictEntry.mk (PySem.PyData.keyHash P (PySem.Str.ofString "__init__"))         (PySem.Value.str (PySem.Str.ofString "__init__") 313) (PySem.Value.ref 95),       PySem.DictEntry.mk (PySem.PyData.keyHash P (PySem.Str.ofString "peek"))         (PySem.Value.str (PySem.Str.ofString "peek") 320) (PySem.Value.ref 102),       PySem.DictEntry.mk (PySem.PyData.keyHash P (PySem.Str.ofString "place"))         (PySem.Value.str (PySem.Str.ofString "place") 327) (PySem.Value.ref 109),       PySem.DictEntry.mk (PySem.PyData.keyHash P (PySem.Str.ofString "take"))         (PySem.Value.str (PySem.Str.ofString "take") 335) (PySem.Value.ref 116),       PySem.DictEntry.mk (PySem.PyData.keyHash P (PySem.Str.ofString "need"))         (PySem.Value.str (PySem.Str.ofString "need") 343) (PySem.Value.ref 123),       PySem.DictEntry.mk (PySem.PyData.keyHash P (PySem.Str.ofString "formula"))         (PySem.Value.str (PySem.Str.ofString "formula") 352) (PySem.Value.ref 130),       PySem.DictEntry.mk (PySem.PyData.keyHash P (PySem.Str.ofString "_longer"))         (PySem.Value.str (PySem.Str.ofString "_longer") 360) (PySem.Value.ref 137),       PySem.DictEntry.mk (PySem.PyData.keyHash P (PySem.Str.ofString "implication"))         (PySem.Value.str (PySem.Str.ofString "implication") 369) (PySem.Value.ref 144),       PySem.DictEntry.mk (PySem.PyData.keyHash P (PySem.Str.ofString "disjunction"))         (PySem.Value.str (PySem.Str.ofString "disjunction") 378) (PySem.Value.ref 151),       PySem.DictEntry.mk (PySem.PyData.keyHash P (PySem.Str.ofString "conjunction"))         (PySem.Value.str (PySem.Str.ofString "conjunction") 387) (PySem.Value.ref 158),       PySem.DictEntry.mk (PySem.PyData.keyHash P (PySem.Str.ofString "simple"))         (PySem.Value.str (PySem.Str.ofString "simple") 395) (PySem.Value.ref 165),       PySem.DictEntry.mk (PySem.PyData.keyHash P (PySem.Str.ofString "_simple"))         (PySem.Value.str (PySem.Str.ofString "_simple") 406) (PySem.Value.ref 172),       PySem.DictEntry.mk (PySem.PyData.keyHash P (PySem.Str.ofString "name"))         (PySem.Value.str (PySem.Str.ofString "name") 414) (PySem.Value.ref 179),       PySem.DictEntry.mk (PySem.PyData.keyHash P (PySem.Str.ofString "arguments"))         (PySem.Value.str (PySem.Str.ofString "arguments") 422) (PySem.Value.ref 186),       PySem.DictEntry.mk (PySem.PyData.keyHash P (PySem.Str.ofString "term"))         (PySem.Value.str (PySem.Str.ofString "term") 431) (PySem.Value.ref 193),       PySem.DictEntry.mk (PySem.PyData.keyHash P (PySem.Str.ofString "finish"))         (PySem.Value.str (PySem.Str.ofString "finish") 438) (PySem.Value.ref 200),       PySem.DictEntry.mk (PySem.PyData.keyHash P (PySem.Str.ofString "__static_attributes__"))         (PySem.Value.str (PySem.Str.ofString "__static_attributes__") 443) (PySem.Value.ref 201)]     20)   #[]
noncomputable def o5_85 (P : Params) : Obj := PySem.Obj.mk (PySem.Value.type "tuple") Option.none (PySem.Data.seq #[]) #[]
noncomputable def o5_86 (P : Params) : Obj := PySem.Obj.mk PySem.Value.none Option.none   (PySem.Data.fields     #[PySem.Value.int 52 0, PySem.Value.int 4 0, PySem.Value.ref 94, PySem.Value.int 58 0, PySem.Value.int 4 0,       PySem.Value.ref 101, PySem.Value.int 63 0, PySem.Value.int 4 0, PySem.Value.ref 108, PySem.Value.int 68 0,       PySem.Value.int 4 0, PySem.Value.ref 115, PySem.Value.int 73 0, PySem.Value.int 4 0, PySem.Value.ref 122,       PySem.Value.int 78 0, PySem.Value.int 4 0, PySem.Value.ref 129, PySem.Value.int 87 0, PySem.Value.int 4 0,       PySem.Value.ref 136, PySem.Value.int 92 0, PySem.Value.int 4 0, PySem.Value.ref 143, PySem.Value.int 104 0,       PySem.Value.int 4 0, PySem.Value.ref 150, PySem.Value.int 113 0, PySem.Value.int 4 0, PySem.Value.ref 157,       PySem.Value.int 122 0, PySem.Value.int 4 0, PySem.Value.ref 164, PySem.Value.int 130 0, PySem.Value.int 4 0,       PySem.Value.ref 171, PySem.Value.int 155 0, PySem.Value.int 4 0, PySem.Value.ref 178, PySem.Value.int 161 0,       PySem.Value.int 4 0, PySem.Value.ref 185, PySem.Value.int 172 0, PySem.Value.int 4 0, PySem.Value.ref 192,       PySem.Value.int 186 0, PySem.Value.int 4 0, PySem.Value.ref 199])   #[]
noncomputable def o5_87 (P : Params) : Obj := PySem.Obj.mk (PySem.Value.type "code") Option.none   (PySem.Data.fields     #[PySem.Value.str (PySem.Str.ofString "Reader") 296, PySem.Value.str (PySem.Str.ofString "Reader") 297,       PySem.Value.str (PySem.Str.ofString "/claim/cut.py") 298, PySem.Value.int 50 0, PySem.Value.int 0 0,       PySem.Value.int 0 0, PySem.Value.int 0 0, PySem.Value.int 0 0, PySem.Value.ref 85, PySem.Value.bool Bool.false,       PySem.Value.int 181 0, PySem.Value.ref 86, PySem.Value.none, PySem.Value.none, PySem.Value.none, PySem.Value.none,       PySem.Value.int 299 0, PySem.Value.int 50 0, PySem.Value.str (PySem.Str.ofString "/claim/cut.py") 300])   #[]
noncomputable def o5_88 (P : Params) : Obj := PySem.Obj.mk (PySem.Value.type "frame") Option.none PySem.Data.plain   #[Option.some (PySem.Value.ref 87), Option.some (PySem.Value.ref 3), Option.some (PySem.Value.ref 84), Option.none,     Option.some (PySem.Value.str (PySem.Str.ofString "proofkit.reader") 246), Option.none,     Option.some (PySem.Value.ref 0)]
noncomputable def o5_89 (P : Params) : Obj := PySem.Obj.mk (PySem.Value.type "tuple") Option.none (PySem.Data.seq #[]) #[]
noncomputable def o5_90 (P : Params) : Obj := PySem.Obj.mk PySem.Value.none Option.none (PySem.Data.fields #[]) #[]
noncomputable def o5_91 (P : Params) : Obj := PySem.Obj.mk (PySem.Value.type "tuple") Option.none   (PySem.Data.seq #[PySem.Value.str (PySem.Str.ofString "self") 309, PySem.Value.str (PySem.Str.ofString "text") 310])   #[]
noncomputable def o5_92 (P : Params) : Obj := PySem.Obj.mk (PySem.Value.type "tuple") Option.none (PySem.Data.seq #[]) #[]
noncomputable abbrev fa_c14_0 : Arguments := by
  refine' (fun (k : Arguments) (_ : fnA (mt 14 0) = k) => k) _ ?h
  case h => (conv => lhs; whnf)
noncomputable abbrev fb_c14_0 : List Stmt := by
  refine' (fun (k : List Stmt) (_ : fnB (mt 14 0) = k) => k) _ ?h
  case h => (conv => lhs; whnf)
noncomputable abbrev fs_c14_0 : Scope := by
  refine' (fun (k : Scope) (_ : fnS (mt 14 0) = k) => k) _ ?h
  case h => (conv => lhs; whnf)
noncomputable def o5_93 (P : Params) : Obj := PySem.Obj.mk PySem.Value.none Option.none   (PySem.Data.func     (PySem.FuncData.mk (PySem.Str.ofString "__init__") (PySem.Str.ofString "Reader.__init__") fa_c14_0       (PySem.FuncBody.stmts fb_c14_0) fs_c14_0 0 [] PySem.Value.none PySem.Value.none PySem.Value.none PySem.Value.none       Option.none PySem.Value.none PySem.Value.none 0))   #[]
noncomputable def o5_94 (P : Params) : Obj := PySem.Obj.mk (PySem.Value.type "code") Option.none   (PySem.Data.fields     #[PySem.Value.str (PySem.Str.ofString "__init__") 306, PySem.Value.str (PySem.Str.ofString "Reader.__init__") 307,       PySem.Value.str (PySem.Str.ofString "/claim/cut.py") 308, PySem.Value.int 52 0, PySem.Value.int 2 0,       PySem.Value.int 0 0, PySem.Value.int 0 0, PySem.Value.int 3 0, PySem.Value.ref 89, PySem.Value.bool Bool.true,       PySem.Value.int 181 0, PySem.Value.ref 90, PySem.Value.none, PySem.Value.ref 91, PySem.Value.ref 92,       PySem.Value.ref 93, PySem.Value.int 311 0, PySem.Value.int 52 0,       PySem.Value.str (PySem.Str.ofString "/claim/cut.py") 312])   #[]
noncomputable def o5_95 (P : Params) : Obj := PySem.Obj.mk (PySem.Value.type "function") Option.none   (PySem.Data.func     (PySem.FuncData.mk (PySem.Str.ofString "__init__") (PySem.Str.ofString "Reader.__init__") fa_c14_0       (PySem.FuncBody.stmts fb_c14_0) fs_c14_0 3 [] PySem.Value.none PySem.Value.none PySem.Value.none       (PySem.Value.str (PySem.Str.ofString "proofkit.reader") 246) Option.none (PySem.Value.ref 94) PySem.Value.none 0))   #[]
noncomputable def o5_96 (P : Params) : Obj := PySem.Obj.mk (PySem.Value.type "tuple") Option.none (PySem.Data.seq #[]) #[]
noncomputable def o5_97 (P : Params) : Obj := PySem.Obj.mk PySem.Value.none Option.none (PySem.Data.fields #[]) #[]
noncomputable def o5_98 (P : Params) : Obj := PySem.Obj.mk (PySem.Value.type "tuple") Option.none (PySem.Data.seq #[PySem.Value.str (PySem.Str.ofString "self") 317])   #[]
noncomputable def o5_99 (P : Params) : Obj := PySem.Obj.mk (PySem.Value.type "tuple") Option.none (PySem.Data.seq #[]) #[]
noncomputable abbrev fa_c14_1 : Arguments := by
  refine' (fun (k : Arguments) (_ : fnA (mt 14 1) = k) => k) _ ?h
  case h => (conv => lhs; whnf)
noncomputable abbrev fb_c14_1 : List Stmt := by
  refine' (fun (k : List Stmt) (_ : fnB (mt 14 1) = k) => k) _ ?h
  case h => (conv => lhs; whnf)
noncomputable abbrev fs_c14_1 : Scope := by
  refine' (fun (k : Scope) (_ : fnS (mt 14 1) = k) => k) _ ?h
  case h => (conv => lhs; whnf)
noncomputable def o5_100 (P : Params) : Obj := PySem.Obj.mk PySem.Value.none Option.none   (PySem.Data.func     (PySem.FuncData.mk (PySem.Str.ofString "peek") (PySem.Str.ofString "Reader.peek") fa_c14_1       (PySem.FuncBody.stmts fb_c14_1) fs_c14_1 0 [] PySem.Value.none PySem.Value.none PySem.Value.none PySem.Value.none       Option.none PySem.Value.none PySem.Value.none 0))   #[]
noncomputable def o5_101 (P : Params) : Obj := PySem.Obj.mk (PySem.Value.type "code") Option.none   (PySem.Data.fields     #[PySem.Value.str (PySem.Str.ofString "peek") 314, PySem.Value.str (PySem.Str.ofString "Reader.peek") 315,       PySem.Value.str (PySem.Str.ofString "/claim/cut.py") 316, PySem.Value.int 58 0, PySem.Value.int 1 0,       PySem.Value.int 0 0, PySem.Value.int 0 0, PySem.Value.int 3 0, PySem.Value.ref 96, PySem.Value.bool Bool.true,       PySem.Value.int 181 0, PySem.Value.ref 97, PySem.Value.none, PySem.Value.ref 98, PySem.Value.ref 99,       PySem.Value.ref 100, PySem.Value.int 318 0, PySem.Value.int 58 0,       PySem.Value.str (PySem.Str.ofString "/claim/cut.py") 319])   #[]
noncomputable def o5_102 (P : Params) : Obj := PySem.Obj.mk (PySem.Value.type "function") Option.none   (PySem.Data.func     (PySem.FuncData.mk (PySem.Str.ofString "peek") (PySem.Str.ofString "Reader.peek") fa_c14_1       (PySem.FuncBody.stmts fb_c14_1) fs_c14_1 3 [] PySem.Value.none PySem.Value.none PySem.Value.none       (PySem.Value.str (PySem.Str.ofString "proofkit.reader") 246) Option.none (PySem.Value.ref 101) PySem.Value.none       0))   #[]
noncomputable def o5_103 (P : Params) : Obj := PySem.Obj.mk (PySem.Value.type "tuple") Option.none (PySem.Data.seq #[]) #[]
noncomputable def o5_104 (P : Params) : Obj := PySem.Obj.mk PySem.Value.none Option.none (PySem.Data.fields #[]) #[]
noncomputable def o5_105 (P : Params) : Obj := PySem.Obj.mk (PySem.Value.type "tuple") Option.none (PySem.Data.seq #[PySem.Value.str (PySem.Str.ofString "self") 324])   #[]
noncomputable def o5_106 (P : Params) : Obj := PySem.Obj.mk (PySem.Value.type "tuple") Option.none (PySem.Data.seq #[]) #[]
noncomputable abbrev fa_c14_2 : Arguments := by
  refine' (fun (k : Arguments) (_ : fnA (mt 14 2) = k) => k) _ ?h
  case h => (conv => lhs; whnf)
noncomputable abbrev fb_c14_2 : List Stmt := by
  refine' (fun (k : List Stmt) (_ : fnB (mt 14 2) = k) => k) _ ?h
  case h => (conv => lhs; whnf)
noncomputable abbrev fs_c14_2 : Scope := by
  refine' (fun (k : Scope) (_ : fnS (mt 14 2) = k) => k) _ ?h
  case h => (conv => lhs; whnf)
noncomputable def o5_107 (P : Params) : Obj := PySem.Obj.mk PySem.Value.none Option.none   (PySem.Data.func     (PySem.FuncData.mk (PySem.Str.ofString "place") (PySem.Str.ofString "Reader.place") fa_c14_2       (PySem.FuncBody.stmts fb_c14_2) fs_c14_2 0 [] PySem.Value.none PySem.Value.none PySem.Value.none PySem.Value.none       Option.none PySem.Value.none PySem.Value.none 0))   #[]
noncomputable def o5_108 (P : Params) : Obj := PySem.Obj.mk (PySem.Value.type "code") Option.none   (PySem.Data.fields     #[PySem.Value.str (PySem.Str.ofString "place") 321, PySem.Value.str (PySem.Str.ofString "Reader.place") 322,       PySem.Value.str (PySem.Str.ofString "/claim/cut.py") 323, PySem.Value.int 63 0, PySem.Value.int 1 0,       PySem.Value.int 0 0, PySem.Value.int 0 0, PySem.Value.int 3 0, PySem.Value.ref 103, PySem.Value.bool Bool.true,       PySem.Value.int 181 0, PySem.Value.ref 104, PySem.Value.none, PySem.Value.ref 105, PySem.Value.ref 106,       PySem.Value.ref 107, PySem.Value.int 325 0, PySem.Value.int 63 0,       PySem.Value.str (PySem.Str.ofString "/claim/cut.py") 326])   #[]
noncomputable def o5_109 (P : Params) : Obj := PySem.Obj.mk (PySem.Value.type "function") Option.none   (PySem.Data.func     (PySem.FuncData.mk (PySem.Str.ofString "place") (PySem.Str.ofString "Reader.place") fa_c14_2       (PySem.FuncBody.stmts fb_c14_2) fs_c14_2 3 [] PySem.Value.none PySem.Value.none PySem.Value.none       (PySem.Value.str (PySem.Str.ofString "proofkit.reader") 246) Option.none (PySem.Value.ref 108) PySem.Value.none       0))   #[]
noncomputable def o5_110 (P : Params) : Obj := PySem.Obj.mk (PySem.Value.type "tuple") Option.none (PySem.Data.seq #[]) #[]
noncomputable def o5_111 (P : Params) : Obj := PySem.Obj.mk PySem.Value.none Option.none (PySem.Data.fields #[]) #[]
noncomputable def o5_112 (P : Params) : Obj := PySem.Obj.mk (PySem.Value.type "tuple") Option.none   (PySem.Data.seq #[PySem.Value.str (PySem.Str.ofString "self") 331, PySem.Value.str (PySem.Str.ofString "word") 332])   #[]
noncomputable def o5_113 (P : Params) : Obj := PySem.Obj.mk (PySem.Value.type "tuple") Option.none (PySem.Data.seq #[]) #[]
noncomputable abbrev fa_c14_3 : Arguments := by
  refine' (fun (k : Arguments) (_ : fnA (mt 14 3) = k) => k) _ ?h
  case h => (conv => lhs; whnf)
noncomputable abbrev fb_c14_3 : List Stmt := by
  refine' (fun (k : List Stmt) (_ : fnB (mt 14 3) = k) => k) _ ?h
  case h => (conv => lhs; whnf)
noncomputable abbrev fs_c14_3 : Scope := by
  refine' (fun (k : Scope) (_ : fnS (mt 14 3) = k) => k) _ ?h
  case h => (conv => lhs; whnf)
noncomputable def o5_114 (P : Params) : Obj := PySem.Obj.mk PySem.Value.none Option.none   (PySem.Data.func     (PySem.FuncData.mk (PySem.Str.ofString "take") (PySem.Str.ofString "Reader.take") fa_c14_3       (PySem.FuncBody.stmts fb_c14_3) fs_c14_3 0 [] PySem.Value.none PySem.Value.none PySem.Value.none PySem.Value.none       Option.none PySem.Value.none PySem.Value.none 0))   #[]
noncomputable def o5_115 (P : Params) : Obj := PySem.Obj.mk (PySem.Value.type "code") Option.none   (PySem.Data.fields     #[PySem.Value.str (PySem.Str.ofString "take") 328, PySem.Value.str (PySem.Str.ofString "Reader.take") 329,       PySem.Value.str (PySem.Str.ofString "/claim/cut.py") 330, PySem.Value.int 68 0, PySem.Value.int 1 0,       PySem.Value.int 0 0, PySem.Value.int 0 0, PySem.Value.int 3 0, PySem.Value.ref 110, PySem.Value.bool Bool.true,       PySem.Value.int 181 0, PySem.Value.ref 111, PySem.Value.none, PySem.Value.ref 112, PySem.Value.ref 113,       PySem.Value.ref 114, PySem.Value.int 333 0, PySem.Value.int 68 0,       PySem.Value.str (PySem.Str.ofString "/claim/cut.py") 334])   #[]
noncomputable def o5_116 (P : Params) : Obj := PySem.Obj.mk (PySem.Value.type "function") Option.none   (PySem.Data.func     (PySem.FuncData.mk (PySem.Str.ofString "take") (PySem.Str.ofString "Reader.take") fa_c14_3       (PySem.FuncBody.stmts fb_c14_3) fs_c14_3 3 [] PySem.Value.none PySem.Value.none PySem.Value.none       (PySem.Value.str (PySem.Str.ofString "proofkit.reader") 246) Option.none (PySem.Value.ref 115) PySem.Value.none       0))   #[]
noncomputable def o5_117 (P : Params) : Obj := PySem.Obj.mk (PySem.Value.type "tuple") Option.none (PySem.Data.seq #[]) #[]
noncomputable def o5_118 (P : Params) : Obj := PySem.Obj.mk PySem.Value.none Option.none (PySem.Data.fields #[]) #[]
noncomputable def o5_119 (P : Params) : Obj := PySem.Obj.mk (PySem.Value.type "tuple") Option.none   (PySem.Data.seq #[PySem.Value.str (PySem.Str.ofString "self") 339, PySem.Value.str (PySem.Str.ofString "word") 340])   #[]
noncomputable def o5_120 (P : Params) : Obj := PySem.Obj.mk (PySem.Value.type "tuple") Option.none (PySem.Data.seq #[]) #[]
noncomputable abbrev fa_c14_4 : Arguments := by
  refine' (fun (k : Arguments) (_ : fnA (mt 14 4) = k) => k) _ ?h
  case h => (conv => lhs; whnf)
noncomputable abbrev fb_c14_4 : List Stmt := by
  refine' (fun (k : List Stmt) (_ : fnB (mt 14 4) = k) => k) _ ?h
  case h => (conv => lhs; whnf)
noncomputable abbrev fs_c14_4 : Scope := by
  refine' (fun (k : Scope) (_ : fnS (mt 14 4) = k) => k) _ ?h
  case h => (conv => lhs; whnf)
noncomputable def o5_121 (P : Params) : Obj := PySem.Obj.mk PySem.Value.none Option.none   (PySem.Data.func     (PySem.FuncData.mk (PySem.Str.ofString "need") (PySem.Str.ofString "Reader.need") fa_c14_4       (PySem.FuncBody.stmts fb_c14_4) fs_c14_4 0 [] PySem.Value.none PySem.Value.none PySem.Value.none PySem.Value.none       Option.none PySem.Value.none PySem.Value.none 0))   #[]
noncomputable def o5_122 (P : Params) : Obj := PySem.Obj.mk (PySem.Value.type "code") Option.none   (PySem.Data.fields     #[PySem.Value.str (PySem.Str.ofString "need") 336, PySem.Value.str (PySem.Str.ofString "Reader.need") 337,       PySem.Value.str (PySem.Str.ofString "/claim/cut.py") 338, PySem.Value.int 73 0, PySem.Value.int 2 0,       PySem.Value.int 0 0, PySem.Value.int 0 0, PySem.Value.int 3 0, PySem.Value.ref 117, PySem.Value.bool Bool.true,       PySem.Value.int 181 0, PySem.Value.ref 118, PySem.Value.none, PySem.Value.ref 119, PySem.Value.ref 120,       PySem.Value.ref 121, PySem.Value.int 341 0, PySem.Value.int 73 0,       PySem.Value.str (PySem.Str.ofString "/claim/cut.py") 342])   #[]
noncomputable def o5_123 (P : Params) : Obj := PySem.Obj.mk (PySem.Value.type "function") Option.none   (PySem.Data.func     (PySem.FuncData.mk (PySem.Str.ofString "need") (PySem.Str.ofString "Reader.need") fa_c14_4       (PySem.FuncBody.stmts fb_c14_4) fs_c14_4 3 [] PySem.Value.none PySem.Value.none PySem.Value.none       (PySem.Value.str (PySem.Str.ofString "proofkit.reader") 246) Option.none (PySem.Value.ref 122) PySem.Value.none       0))   #[]
noncomputable def o5_124 (P : Params) : Obj := PySem.Obj.mk (PySem.Value.type "tuple") Option.none (PySem.Data.seq #[]) #[]
noncomputable def o5_125 (P : Params) : Obj := PySem.Obj.mk PySem.Value.none Option.none (PySem.Data.fields #[]) #[]
noncomputable def o5_126 (P : Params) : Obj := PySem.Obj.mk (PySem.Value.type "tuple") Option.none   (PySem.Data.seq     #[PySem.Value.str (PySem.Str.ofString "self") 347, PySem.Value.str (PySem.Str.ofString "left") 348,       PySem.Value.str (PySem.Str.ofString "count") 349])   #[]
noncomputable def o5_127 (P : Params) : Obj := PySem.Obj.mk (PySem.Value.type "tuple") Option.none (PySem.Data.seq #[]) #[]
noncomputable abbrev fa_c14_5 : Arguments := by
  refine' (fun (k : Arguments) (_ : fnA (mt 14 5) = k) => k) _ ?h
  case h => (conv => lhs; whnf)
noncomputable abbrev fb_c14_5 : List Stmt := by
  refine' (fun (k : List Stmt) (_ : fnB (mt 14 5) = k) => k) _ ?h
  case h => (conv => lhs; whnf)
noncomputable abbrev fs_c14_5 : Scope := by
  refine' (fun (k : Scope) (_ : fnS (mt 14 5) = k) => k) _ ?h
  case h => (conv => lhs; whnf)
noncomputable def o5_128 (P : Params) : Obj := PySem.Obj.mk PySem.Value.none Option.none   (PySem.Data.func     (PySem.FuncData.mk (PySem.Str.ofString "formula") (PySem.Str.ofString "Reader.formula") fa_c14_5       (PySem.FuncBody.stmts fb_c14_5) fs_c14_5 0 [] PySem.Value.none PySem.Value.none PySem.Value.none PySem.Value.none       Option.none PySem.Value.none PySem.Value.none 0))   #[]
noncomputable def o5_129 (P : Params) : Obj := PySem.Obj.mk (PySem.Value.type "code") Option.none   (PySem.Data.fields     #[PySem.Value.str (PySem.Str.ofString "formula") 344, PySem.Value.str (PySem.Str.ofString "Reader.formula") 345,       PySem.Value.str (PySem.Str.ofString "/claim/cut.py") 346, PySem.Value.int 78 0, PySem.Value.int 1 0,       PySem.Value.int 0 0, PySem.Value.int 0 0, PySem.Value.int 3 0, PySem.Value.ref 124, PySem.Value.bool Bool.true,       PySem.Value.int 181 0, PySem.Value.ref 125, PySem.Value.none, PySem.Value.ref 126, PySem.Value.ref 127,       PySem.Value.ref 128, PySem.Value.int 350 0, PySem.Value.int 78 0,       PySem.Value.str (PySem.Str.ofString "/claim/cut.py") 351])   #[]
noncomputable def o5_130 (P : Params) : Obj := PySem.Obj.mk (PySem.Value.type "function") Option.none   (PySem.Data.func     (PySem.FuncData.mk (PySem.Str.ofString "formula") (PySem.Str.ofString "Reader.formula") fa_c14_5       (PySem.FuncBody.stmts fb_c14_5) fs_c14_5 3 [] PySem.Value.none PySem.Value.none PySem.Value.none       (PySem.Value.str (PySem.Str.ofString "proofkit.reader") 246) Option.none (PySem.Value.ref 129) PySem.Value.none       0))   #[]
noncomputable def o5_131 (P : Params) : Obj := PySem.Obj.mk (PySem.Value.type "tuple") Option.none (PySem.Data.seq #[]) #[]
noncomputable def o5_132 (P : Params) : Obj := PySem.Obj.mk PySem.Value.none Option.none (PySem.Data.fields #[]) #[]
noncomputable def o5_133 (P : Params) : Obj := PySem.Obj.mk (PySem.Value.type "tuple") Option.none   (PySem.Data.seq #[PySem.Value.str (PySem.Str.ofString "self") 356, PySem.Value.str (PySem.Str.ofString "count") 357])   #[]
noncomputable def o5_134 (P : Params) : Obj := PySem.Obj.mk (PySem.Value.type "tuple") Option.none (PySem.Data.seq #[]) #[]
noncomputable abbrev fa_c14_6 : Arguments := by
  refine' (fun (k : Arguments) (_ : fnA (mt 14 6) = k) => k) _ ?h
  case h => (conv => lhs; whnf)
noncomputable abbrev fb_c14_6 : List Stmt := by
  refine' (fun (k : List Stmt) (_ : fnB (mt 14 6) = k) => k) _ ?h
  case h => (conv => lhs; whnf)
noncomputable abbrev fs_c14_6 : Scope := by
  refine' (fun (k : Scope) (_ : fnS (mt 14 6) = k) => k) _ ?h
  case h => (conv => lhs; whnf)
noncomputable def o5_135 (P : Params) : Obj := PySem.Obj.mk PySem.Value.none Option.none   (PySem.Data.func     (PySem.FuncData.mk (PySem.Str.ofString "_longer") (PySem.Str.ofString "Reader._longer") fa_c14_6       (PySem.FuncBody.stmts fb_c14_6) fs_c14_6 0 [] PySem.Value.none PySem.Value.none PySem.Value.none PySem.Value.none       Option.none PySem.Value.none PySem.Value.none 0))   #[]
noncomputable def o5_136 (P : Params) : Obj := PySem.Obj.mk (PySem.Value.type "code") Option.none   (PySem.Data.fields     #[PySem.Value.str (PySem.Str.ofString "_longer") 353, PySem.Value.str (PySem.Str.ofString "Reader._longer") 354,       PySem.Value.str (PySem.Str.ofString "/claim/cut.py") 355, PySem.Value.int 87 0, PySem.Value.int 2 0,       PySem.Value.int 0 0, PySem.Value.int 0 0, PySem.Value.int 3 0, PySem.Value.ref 131, PySem.Value.bool Bool.true,       PySem.Value.int 181 0, PySem.Value.ref 132, PySem.Value.none, PySem.Value.ref 133, PySem.Value.ref 134,       PySem.Value.ref 135, PySem.Value.int 358 0, PySem.Value.int 87 0,       PySem.Value.str (PySem.Str.ofString "/claim/cut.py") 359])   #[]
noncomputable def o5_137 (P : Params) : Obj := PySem.Obj.mk (PySem.Value.type "function") Option.none   (PySem.Data.func     (PySem.FuncData.mk (PySem.Str.ofString "_longer") (PySem.Str.ofString "Reader._longer") fa_c14_6       (PySem.FuncBody.stmts fb_c14_6) fs_c14_6 3 [] PySem.Value.none PySem.Value.none PySem.Value.none       (PySem.Value.str (PySem.Str.ofString "proofkit.reader") 246) Option.none (PySem.Value.ref 136) PySem.Value.none       0))   #[]
noncomputable def o5_138 (P : Params) : Obj := PySem.Obj.mk (PySem.Value.type "tuple") Option.none (PySem.Data.seq #[]) #[]
noncomputable def o5_139 (P : Params) : Obj := PySem.Obj.mk PySem.Value.none Option.none (PySem.Data.fields #[]) #[]
noncomputable def o5_140 (P : Params) : Obj := PySem.Obj.mk (PySem.Value.type "tuple") Option.none   (PySem.Data.seq     #[PySem.Value.str (PySem.Str.ofString "self") 364, PySem.Value.str (PySem.Str.ofString "rows") 365,       PySem.Value.str (PySem.Str.ofString "out") 366])   #[]
noncomputable def o5_141 (P : Params) : Obj := PySem.Obj.mk (PySem.Value.type "tuple") Option.none (PySem.Data.seq #[]) #[]
noncomputable abbrev fa_c14_7 : Arguments := by
  refine' (fun (k : Arguments) (_ : fnA (mt 14 7) = k) => k) _ ?h
  case h => (conv => lhs; whnf)
noncomputable abbrev fb_c14_7 : List Stmt := by
  refine' (fun (k : List Stmt) (_ : fnB (mt 14 7) = k) => k) _ ?h
  case h => (conv => lhs; whnf)
noncomputable abbrev fs_c14_7 : Scope := by
  refine' (fun (k : Scope) (_ : fnS (mt 14 7) = k) => k) _ ?h
  case h => (conv => lhs; whnf)
noncomputable def o5_142 (P : Params) : Obj := PySem.Obj.mk PySem.Value.none Option.none   (PySem.Data.func     (PySem.FuncData.mk (PySem.Str.ofString "implication") (PySem.Str.ofString "Reader.implication") fa_c14_7       (PySem.FuncBody.stmts fb_c14_7) fs_c14_7 0 [] PySem.Value.none PySem.Value.none PySem.Value.none PySem.Value.none       Option.none PySem.Value.none PySem.Value.none 0))   #[]
noncomputable def o5_143 (P : Params) : Obj := PySem.Obj.mk (PySem.Value.type "code") Option.none   (PySem.Data.fields     #[PySem.Value.str (PySem.Str.ofString "implication") 361,       PySem.Value.str (PySem.Str.ofString "Reader.implication") 362,       PySem.Value.str (PySem.Str.ofString "/claim/cut.py") 363, PySem.Value.int 92 0, PySem.Value.int 1 0,       PySem.Value.int 0 0, PySem.Value.int 0 0, PySem.Value.int 3 0, PySem.Value.ref 138, PySem.Value.bool Bool.true,       PySem.Value.int 181 0, PySem.Value.ref 139, PySem.Value.none, PySem.Value.ref 140, PySem.Value.ref 141,       PySem.Value.ref 142, PySem.Value.int 367 0, PySem.Value.int 92 0,       PySem.Value.str (PySem.Str.ofString "/claim/cut.py") 368])   #[]
noncomputable def o5_144 (P : Params) : Obj := PySem.Obj.mk (PySem.Value.type "function") Option.none   (PySem.Data.func     (PySem.FuncData.mk (PySem.Str.ofString "implication") (PySem.Str.ofString "Reader.implication") fa_c14_7       (PySem.FuncBody.stmts fb_c14_7) fs_c14_7 3 [] PySem.Value.none PySem.Value.none PySem.Value.none       (PySem.Value.str (PySem.Str.ofString "proofkit.reader") 246) Option.none (PySem.Value.ref 143) PySem.Value.none       0))   #[]
noncomputable def o5_145 (P : Params) : Obj := PySem.Obj.mk (PySem.Value.type "tuple") Option.none (PySem.Data.seq #[]) #[]
noncomputable def o5_146 (P : Params) : Obj := PySem.Obj.mk PySem.Value.none Option.none (PySem.Data.fields #[]) #[]
noncomputable def o5_147 (P : Params) : Obj := PySem.Obj.mk (PySem.Value.type "tuple") Option.none   (PySem.Data.seq     #[PySem.Value.str (PySem.Str.ofString "self") 373, PySem.Value.str (PySem.Str.ofString "left") 374,       PySem.Value.str (PySem.Str.ofString "count") 375])   #[]
noncomputable def o5_148 (P : Params) : Obj := PySem.Obj.mk (PySem.Value.type "tuple") Option.none (PySem.Data.seq #[]) #[]
noncomputable abbrev fa_c14_8 : Arguments := by
  refine' (fun (k : Arguments) (_ : fnA (mt 14 8) = k) => k) _ ?h
  case h => (conv => lhs; whnf)
noncomputable abbrev fb_c14_8 : List Stmt := by
  refine' (fun (k : List Stmt) (_ : fnB (mt 14 8) = k) => k) _ ?h
  case h => (conv => lhs; whnf)
noncomputable abbrev fs_c14_8 : Scope := by
  refine' (fun (k : Scope) (_ : fnS (mt 14 8) = k) => k) _ ?h
  case h => (conv => lhs; whnf)
noncomputable def o5_149 (P : Params) : Obj := PySem.Obj.mk PySem.Value.none Option.none   (PySem.Data.func     (PySem.FuncData.mk (PySem.Str.ofString "disjunction") (PySem.Str.ofString "Reader.disjunction") fa_c14_8       (PySem.FuncBody.stmts fb_c14_8) fs_c14_8 0 [] PySem.Value.none PySem.Value.none PySem.Value.none PySem.Value.none       Option.none PySem.Value.none PySem.Value.none 0))   #[]
noncomputable def o5_150 (P : Params) : Obj := PySem.Obj.mk (PySem.Value.type "code") Option.none   (PySem.Data.fields     #[PySem.Value.str (PySem.Str.ofString "disjunction") 370,       PySem.Value.str (PySem.Str.ofString "Reader.disjunction") 371,       PySem.Value.str (PySem.Str.ofString "/claim/cut.py") 372, PySem.Value.int 104 0, PySem.Value.int 1 0,       PySem.Value.int 0 0, PySem.Value.int 0 0, PySem.Value.int 3 0, PySem.Value.ref 145, PySem.Value.bool Bool.true,       PySem.Value.int 181 0, PySem.Value.ref 146, PySem.Value.none, PySem.Value.ref 147, PySem.Value.ref 148,       PySem.Value.ref 149, PySem.Value.int 376 0, PySem.Value.int 104 0,       PySem.Value.str (PySem.Str.ofString "/claim/cut.py") 377])   #[]
noncomputable def o5_151 (P : Params) : Obj := PySem.Obj.mk (PySem.Value.type "function") Option.none   (PySem.Data.func     (PySem.FuncData.mk (PySem.Str.ofString "disjunction") (PySem.Str.ofString "Reader.disjunction") fa_c14_8       (PySem.FuncBody.stmts fb_c14_8) fs_c14_8 3 [] PySem.Value.none PySem.Value.none PySem.Value.none       (PySem.Value.str (PySem.Str.ofString "proofkit.reader") 246) Option.none (PySem.Value.ref 150) PySem.Value.none       0))   #[]
noncomputable def o5_152 (P : Params) : Obj := PySem.Obj.mk (PySem.Value.type "tuple") Option.none (PySem.Data.seq #[]) #[]
noncomputable def o5_153 (P : Params) : Obj := PySem.Obj.mk PySem.Value.none Option.none (PySem.Data.fields #[]) #[]
noncomputable def o5_154 (P : Params) : Obj := PySem.Obj.mk (PySem.Value.type "tuple") Option.none   (PySem.Data.seq     #[PySem.Value.str (PySem.Str.ofString "self") 382, PySem.Value.str (PySem.Str.ofString "left") 383,       PySem.Value.str (PySem.Str.ofString "count") 384])   #[]
noncomputable def o5_155 (P : Params) : Obj := PySem.Obj.mk (PySem.Value.type "tuple") Option.none (PySem.Data.seq #[]) #[]
noncomputable abbrev fa_c14_9 : Arguments := by
  refine' (fun (k : Arguments) (_ : fnA (mt 14 9) = k) => k) _ ?h
  case h => (conv => lhs; whnf)
noncomputable abbrev fb_c14_9 : List Stmt := by
  refine' (fun (k : List Stmt) (_ : fnB (mt 14 9) = k) => k) _ ?h
  case h => (conv => lhs; whnf)
noncomputable abbrev fs_c14_9 : Scope := by
  refine' (fun (k : Scope) (_ : fnS (mt 14 9) = k) => k) _ ?h
  case h => (conv => lhs; whnf)
noncomputable def o5_156 (P : Params) : Obj := PySem.Obj.mk PySem.Value.none Option.none   (PySem.Data.func     (PySem.FuncData.mk (PySem.Str.ofString "conjunction") (PySem.Str.ofString "Reader.conjunction") fa_c14_9       (PySem.FuncBody.stmts fb_c14_9) fs_c14_9 0 [] PySem.Value.none PySem.Value.none PySem.Value.none PySem.Value.none       Option.none PySem.Value.none PySem.Value.none 0))   #[]
noncomputable def o5_157 (P : Params) : Obj := PySem.Obj.mk (PySem.Value.type "code") Option.none   (PySem.Data.fields     #[PySem.Value.str (PySem.Str.ofString "conjunction") 379,       PySem.Value.str (PySem.Str.ofString "Reader.conjunction") 380,       PySem.Value.str (PySem.Str.ofString "/claim/cut.py") 381, PySem.Value.int 113 0, PySem.Value.int 1 0,       PySem.Value.int 0 0, PySem.Value.int 0 0, PySem.Value.int 3 0, PySem.Value.ref 152, PySem.Value.bool Bool.true,       PySem.Value.int 181 0, PySem.Value.ref 153, PySem.Value.none, PySem.Value.ref 154, PySem.Value.ref 155,       PySem.Value.ref 156, PySem.Value.int 385 0, PySem.Value.int 113 0,       PySem.Value.str (PySem.Str.ofString "/claim/cut.py") 386])   #[]
noncomputable def o5_158 (P : Params) : Obj := PySem.Obj.mk (PySem.Value.type "function") Option.none   (PySem.Data.func     (PySem.FuncData.mk (PySem.Str.ofString "conjunction") (PySem.Str.ofString "Reader.conjunction") fa_c14_9       (PySem.FuncBody.stmts fb_c14_9) fs_c14_9 3 [] PySem.Value.none PySem.Value.none PySem.Value.none       (PySem.Value.str (PySem.Str.ofString "proofkit.reader") 246) Option.none (PySem.Value.ref 157) PySem.Value.none       0))   #[]
noncomputable def o5_159 (P : Params) : Obj := PySem.Obj.mk (PySem.Value.type "tuple") Option.none (PySem.Data.seq #[]) #[]
noncomputable def o5_160 (P : Params) : Obj := PySem.Obj.mk PySem.Value.none Option.none (PySem.Data.fields #[]) #[]
noncomputable def o5_161 (P : Params) : Obj := PySem.Obj.mk (PySem.Value.type "tuple") Option.none   (PySem.Data.seq #[PySem.Value.str (PySem.Str.ofString "self") 391, PySem.Value.str (PySem.Str.ofString "out") 392])   #[]
noncomputable def o5_162 (P : Params) : Obj := PySem.Obj.mk (PySem.Value.type "tuple") Option.none (PySem.Data.seq #[]) #[]
noncomputable abbrev fa_c14_10 : Arguments := by
  refine' (fun (k : Arguments) (_ : fnA (mt 14 10) = k) => k) _ ?h
  case h => (conv => lhs; whnf)
noncomputable abbrev fb_c14_10 : List Stmt := by
  refine' (fun (k : List Stmt) (_ : fnB (mt 14 10) = k) => k) _ ?h
  case h => (conv => lhs; whnf)
noncomputable abbrev fs_c14_10 : Scope := by
  refine' (fun (k : Scope) (_ : fnS (mt 14 10) = k) => k) _ ?h
  case h => (conv => lhs; whnf)
noncomputable def o5_163 (P : Params) : Obj := PySem.Obj.mk PySem.Value.none Option.none   (PySem.Data.func     (PySem.FuncData.mk (PySem.Str.ofString "simple") (PySem.Str.ofString "Reader.simple") fa_c14_10       (PySem.FuncBody.stmts fb_c14_10) fs_c14_10 0 [] PySem.Value.none PySem.Value.none PySem.Value.none       PySem.Value.none Option.none PySem.Value.none PySem.Value.none 0))   #[]
noncomputable def o5_164 (P : Params) : Obj := PySem.Obj.mk (PySem.Value.type "code") Option.none   (PySem.Data.fields     #[PySem.Value.str (PySem.Str.ofString "simple") 388, PySem.Value.str (PySem.Str.ofString "Reader.simple") 389,       PySem.Value.str (PySem.Str.ofString "/claim/cut.py") 390, PySem.Value.int 122 0, PySem.Value.int 1 0,       PySem.Value.int 0 0, PySem.Value.int 0 0, PySem.Value.int 3 0, PySem.Value.ref 159, PySem.Value.bool Bool.true,       PySem.Value.int 181 0, PySem.Value.ref 160, PySem.Value.none, PySem.Value.ref 161, PySem.Value.ref 162,       PySem.Value.ref 163, PySem.Value.int 393 0, PySem.Value.int 122 0,       PySem.Value.str (PySem.Str.ofString "/claim/cut.py") 394])   #[]
noncomputable def o5_165 (P : Params) : Obj := PySem.Obj.mk (PySem.Value.type "function") Option.none   (PySem.Data.func     (PySem.FuncData.mk (PySem.Str.ofString "simple") (PySem.Str.ofString "Reader.simple") fa_c14_10       (PySem.FuncBody.stmts fb_c14_10) fs_c14_10 3 [] PySem.Value.none PySem.Value.none PySem.Value.none       (PySem.Value.str (PySem.Str.ofString "proofkit.reader") 246) Option.none (PySem.Value.ref 164) PySem.Value.none       0))   #[]
noncomputable def o5_166 (P : Params) : Obj := PySem.Obj.mk (PySem.Value.type "tuple") Option.none (PySem.Data.seq #[]) #[]
noncomputable def o5_167 (P : Params) : Obj := PySem.Obj.mk PySem.Value.none Option.none (PySem.Data.fields #[]) #[]
noncomputable def o5_168 (P : Params) : Obj := PySem.Obj.mk (PySem.Value.type "tuple") Option.none   (PySem.Data.seq     #[PySem.Value.str (PySem.Str.ofString "self") 399, PySem.Value.str (PySem.Str.ofString "word") 400,       PySem.Value.str (PySem.Str.ofString "name") 401, PySem.Value.str (PySem.Str.ofString "inner") 402,       PySem.Value.str (PySem.Str.ofString "left") 403])   #[]
noncomputable def o5_169 (P : Params) : Obj := PySem.Obj.mk (PySem.Value.type "tuple") Option.none (PySem.Data.seq #[]) #[]
noncomputable abbrev fa_c14_11 : Arguments := by
  refine' (fun (k : Arguments) (_ : fnA (mt 14 11) = k) => k) _ ?h
  case h => (conv => lhs; whnf)
noncomputable abbrev fb_c14_11 : List Stmt := by
  refine' (fun (k : List Stmt) (_ : fnB (mt 14 11) = k) => k) _ ?h
  case h => (conv => lhs; whnf)
noncomputable abbrev fs_c14_11 : Scope := by
  refine' (fun (k : Scope) (_ : fnS (mt 14 11) = k) => k) _ ?h
  case h => (conv => lhs; whnf)
noncomputable def o5_170 (P : Params) : Obj := PySem.Obj.mk PySem.Value.none Option.none   (PySem.Data.func     (PySem.FuncData.mk (PySem.Str.ofString "_simple") (PySem.Str.ofString "Reader._simple") fa_c14_11       (PySem.FuncBody.stmts fb_c14_11) fs_c14_11 0 [] PySem.Value.none PySem.Value.none PySem.Value.none       PySem.Value.none Option.none PySem.Value.none PySem.Value.none 0))   #[]
noncomputable def o5_171 (P : Params) : Obj := PySem.Obj.mk (PySem.Value.type "code") Option.none   (PySem.Data.fields     #[PySem.Value.str (PySem.Str.ofString "_simple") 396, PySem.Value.str (PySem.Str.ofString "Reader._simple") 397,       PySem.Value.str (PySem.Str.ofString "/claim/cut.py") 398, PySem.Value.int 130 0, PySem.Value.int 1 0,       PySem.Value.int 0 0, PySem.Value.int 0 0, PySem.Value.int 3 0, PySem.Value.ref 166, PySem.Value.bool Bool.true,       PySem.Value.int 181 0, PySem.Value.ref 167, PySem.Value.none, PySem.Value.ref 168, PySem.Value.ref 169,       PySem.Value.ref 170, PySem.Value.int 404 0, PySem.Value.int 130 0,       PySem.Value.str (PySem.Str.ofString "/claim/cut.py") 405])   #[]
noncomputable def o5_172 (P : Params) : Obj := PySem.Obj.mk (PySem.Value.type "function") Option.none   (PySem.Data.func     (PySem.FuncData.mk (PySem.Str.ofString "_simple") (PySem.Str.ofString "Reader._simple") fa_c14_11       (PySem.FuncBody.stmts fb_c14_11) fs_c14_11 3 [] PySem.Value.none PySem.Value.none PySem.Value.none       (PySem.Value.str (PySem.Str.ofString "proofkit.reader") 246) Option.none (PySem.Value.ref 171) PySem.Value.none       0))   #[]
noncomputable def o5_173 (P : Params) : Obj := PySem.Obj.mk (PySem.Value.type "tuple") Option.none (PySem.Data.seq #[]) #[]
noncomputable def o5_174 (P : Params) : Obj := PySem.Obj.mk PySem.Value.none Option.none (PySem.Data.fields #[]) #[]
noncomputable def o5_175 (P : Params) : Obj := PySem.Obj.mk (PySem.Value.type "tuple") Option.none   (PySem.Data.seq #[PySem.Value.str (PySem.Str.ofString "self") 410, PySem.Value.str (PySem.Str.ofString "word") 411])   #[]
noncomputable def o5_176 (P : Params) : Obj := PySem.Obj.mk (PySem.Value.type "tuple") Option.none (PySem.Data.seq #[]) #[]
noncomputable abbrev fa_c14_12 : Arguments := by
  refine' (fun (k : Arguments) (_ : fnA (mt 14 12) = k) => k) _ ?h
  case h => (conv => lhs; whnf)
noncomputable abbrev fb_c14_12 : List Stmt := by
  refine' (fun (k : List Stmt) (_ : fnB (mt 14 12) = k) => k) _ ?h
  case h => (conv => lhs; whnf)
noncomputable abbrev fs_c14_12 : Scope := by
  refine' (fun (k : Scope) (_ : fnS (mt 14 12) = k) => k) _ ?h
  case h => (conv => lhs; whnf)
noncomputable def o5_177 (P : Params) : Obj := PySem.Obj.mk PySem.Value.none Option.none   (PySem.Data.func     (PySem.FuncData.mk (PySem.Str.ofString "name") (PySem.Str.ofString "Reader.name") fa_c14_12       (PySem.FuncBody.stmts fb_c14_12) fs_c14_12 0 [] PySem.Value.none PySem.Value.none PySem.Value.none       PySem.Value.none Option.none PySem.Value.none PySem.Value.none 0))   #[]
noncomputable def o5_178 (P : Params) : Obj := PySem.Obj.mk (PySem.Value.type "code") Option.none   (PySem.Data.fields     #[PySem.Value.str (PySem.Str.ofString "name") 407, PySem.Value.str (PySem.Str.ofString "Reader.name") 408,       PySem.Value.str (PySem.Str.ofString "/claim/cut.py") 409, PySem.Value.int 155 0, PySem.Value.int 1 0,       PySem.Value.int 0 0, PySem.Value.int 0 0, PySem.Value.int 3 0, PySem.Value.ref 173, PySem.Value.bool Bool.true,       PySem.Value.int 181 0, PySem.Value.ref 174, PySem.Value.none, PySem.Value.ref 175, PySem.Value.ref 176,       PySem.Value.ref 177, PySem.Value.int 412 0, PySem.Value.int 155 0,       PySem.Value.str (PySem.Str.ofString "/claim/cut.py") 413])   #[]
noncomputable def o5_179 (P : Params) : Obj := PySem.Obj.mk (PySem.Value.type "function") Option.none   (PySem.Data.func     (PySem.FuncData.mk (PySem.Str.ofString "name") (PySem.Str.ofString "Reader.name") fa_c14_12       (PySem.FuncBody.stmts fb_c14_12) fs_c14_12 3 [] PySem.Value.none PySem.Value.none PySem.Value.none       (PySem.Value.str (PySem.Str.ofString "proofkit.reader") 246) Option.none (PySem.Value.ref 178) PySem.Value.none       0))   #[]
noncomputable def o5_180 (P : Params) : Obj := PySem.Obj.mk (PySem.Value.type "tuple") Option.none (PySem.Data.seq #[]) #[]
noncomputable def o5_181 (P : Params) : Obj := PySem.Obj.mk PySem.Value.none Option.none (PySem.Data.fields #[]) #[]
noncomputable def o5_182 (P : Params) : Obj := PySem.Obj.mk (PySem.Value.type "tuple") Option.none   (PySem.Data.seq #[PySem.Value.str (PySem.Str.ofString "self") 418, PySem.Value.str (PySem.Str.ofString "out") 419])   #[]
noncomputable def o5_183 (P : Params) : Obj := PySem.Obj.mk (PySem.Value.type "tuple") Option.none (PySem.Data.seq #[]) #[]
noncomputable abbrev fa_c14_13 : Arguments := by
  refine' (fun (k : Arguments) (_ : fnA (mt 14 13) = k) => k) _ ?h
  case h => (conv => lhs; whnf)
noncomputable abbrev fb_c14_13 : List Stmt := by
  refine' (fun (k : List Stmt) (_ : fnB (mt 14 13) = k) => k) _ ?h
  case h => (conv => lhs; whnf)
noncomputable abbrev fs_c14_13 : Scope := by
  refine' (fun (k : Scope) (_ : fnS (mt 14 13) = k) => k) _ ?h
  case h => (conv => lhs; whnf)
noncomputable def o5_184 (P : Params) : Obj := PySem.Obj.mk PySem.Value.none Option.none   (PySem.Data.func     (PySem.FuncData.mk (PySem.Str.ofString "arguments") (PySem.Str.ofString "Reader.arguments") fa_c14_13       (PySem.FuncBody.stmts fb_c14_13) fs_c14_13 0 [] PySem.Value.none PySem.Value.none PySem.Value.none       PySem.Value.none Option.none PySem.Value.none PySem.Value.none 0))   #[]
noncomputable def o5_185 (P : Params) : Obj := PySem.Obj.mk (PySem.Value.type "code") Option.none   (PySem.Data.fields     #[PySem.Value.str (PySem.Str.ofString "arguments") 415, PySem.Value.str (PySem.Str.ofString "Reader.arguments") 416,       PySem.Value.str (PySem.Str.ofString "/claim/cut.py") 417, PySem.Value.int 161 0, PySem.Value.int 1 0,       PySem.Value.int 0 0, PySem.Value.int 0 0, PySem.Value.int 3 0, PySem.Value.ref 180, PySem.Value.bool Bool.true,       PySem.Value.int 181 0, PySem.Value.ref 181, PySem.Value.none, PySem.Value.ref 182, PySem.Value.ref 183,       PySem.Value.ref 184, PySem.Value.int 420 0, PySem.Value.int 161 0,       PySem.Value.str (PySem.Str.ofString "/claim/cut.py") 421])   #[]
noncomputable def o5_186 (P : Params) : Obj := PySem.Obj.mk (PySem.Value.type "function") Option.none   (PySem.Data.func     (PySem.FuncData.mk (PySem.Str.ofString "arguments") (PySem.Str.ofString "Reader.arguments") fa_c14_13       (PySem.FuncBody.stmts fb_c14_13) fs_c14_13 3 [] PySem.Value.none PySem.Value.none PySem.Value.none       (PySem.Value.str (PySem.Str.ofString "proofkit.reader") 246) Option.none (PySem.Value.ref 185) PySem.Value.none       0))   #[]
noncomputable def o5_187 (P : Params) : Obj := PySem.Obj.mk (PySem.Value.type "tuple") Option.none (PySem.Data.seq #[]) #[]
noncomputable def o5_188 (P : Params) : Obj := PySem.Obj.mk PySem.Value.none Option.none (PySem.Data.fields #[]) #[]
noncomputable def o5_189 (P : Params) : Obj := PySem.Obj.mk (PySem.Value.type "tuple") Option.none   (PySem.Data.seq     #[PySem.Value.str (PySem.Str.ofString "self") 426, PySem.Value.str (PySem.Str.ofString "word") 427,       PySem.Value.str (PySem.Str.ofString "out") 428])   #[]
noncomputable def o5_190 (P : Params) : Obj := PySem.Obj.mk (PySem.Value.type "tuple") Option.none (PySem.Data.seq #[]) #[]
noncomputable abbrev fa_c14_14 : Arguments := by
  refine' (fun (k : Arguments) (_ : fnA (mt 14 14) = k) => k) _ ?h
  case h => (conv => lhs; whnf)
noncomputable abbrev fb_c14_14 : List Stmt := by
  refine' (fun (k : List Stmt) (_ : fnB (mt 14 14) = k) => k) _ ?h
  case h => (conv => lhs; whnf)
noncomputable abbrev fs_c14_14 : Scope := by
  refine' (fun (k : Scope) (_ : fnS (mt 14 14) = k) => k) _ ?h
  case h => (conv => lhs; whnf)
noncomputable def o5_191 (P : Params) : Obj := PySem.Obj.mk PySem.Value.none Option.none   (PySem.Data.func     (PySem.FuncData.mk (PySem.Str.ofString "term") (PySem.Str.ofString "Reader.term") fa_c14_14       (PySem.FuncBody.stmts fb_c14_14) fs_c14_14 0 [] PySem.Value.none PySem.Value.none PySem.Value.none       PySem.Value.none Option.none PySem.Value.none PySem.Value.none 0))   #[]
noncomputable def o5_192 (P : Params) : Obj := PySem.Obj.mk (PySem.Value.type "code") Option.none   (PySem.Data.fields     #[PySem.Value.str (PySem.Str.ofString "term") 423, PySem.Value.str (PySem.Str.ofString "Reader.term") 424,       PySem.Value.str (PySem.Str.ofString "/claim/cut.py") 425, PySem.Value.int 172 0, PySem.Value.int 1 0,       PySem.Value.int 0 0, PySem.Value.int 0 0, PySem.Value.int 3 0, PySem.Value.ref 187, PySem.Value.bool Bool.true,       PySem.Value.int 181 0, PySem.Value.ref 188, PySem.Value.none, PySem.Value.ref 189, PySem.Value.ref 190,       PySem.Value.ref 191, PySem.Value.int 429 0, PySem.Value.int 172 0,       PySem.Value.str (PySem.Str.ofString "/claim/cut.py") 430])   #[]
noncomputable def o5_193 (P : Params) : Obj := PySem.Obj.mk (PySem.Value.type "function") Option.none   (PySem.Data.func     (PySem.FuncData.mk (PySem.Str.ofString "term") (PySem.Str.ofString "Reader.term") fa_c14_14       (PySem.FuncBody.stmts fb_c14_14) fs_c14_14 3 [] PySem.Value.none PySem.Value.none PySem.Value.none       (PySem.Value.str (PySem.Str.ofString "proofkit.reader") 246) Option.none (PySem.Value.ref 192) PySem.Value.none       0))   #[]
noncomputable def o5_194 (P : Params) : Obj := PySem.Obj.mk (PySem.Value.type "tuple") Option.none (PySem.Data.seq #[]) #[]
noncomputable def o5_195 (P : Params) : Obj := PySem.Obj.mk PySem.Value.none Option.none (PySem.Data.fields #[]) #[]
noncomputable def o5_196 (P : Params) : Obj := PySem.Obj.mk (PySem.Value.type "tuple") Option.none (PySem.Data.seq #[PySem.Value.str (PySem.Str.ofString "self") 435])   #[]
noncomputable def o5_197 (P : Params) : Obj := PySem.Obj.mk (PySem.Value.type "tuple") Option.none (PySem.Data.seq #[]) #[]
noncomputable abbrev fa_c14_15 : Arguments := by
  refine' (fun (k : Arguments) (_ : fnA (mt 14 15) = k) => k) _ ?h
  case h => (conv => lhs; whnf)
noncomputable abbrev fb_c14_15 : List Stmt := by
  refine' (fun (k : List Stmt) (_ : fnB (mt 14 15) = k) => k) _ ?h
  case h => (conv => lhs; whnf)
noncomputable abbrev fs_c14_15 : Scope := by
  refine' (fun (k : Scope) (_ : fnS (mt 14 15) = k) => k) _ ?h
  case h => (conv => lhs; whnf)
noncomputable def o5_198 (P : Params) : Obj := PySem.Obj.mk PySem.Value.none Option.none   (PySem.Data.func     (PySem.FuncData.mk (PySem.Str.ofString "finish") (PySem.Str.ofString "Reader.finish") fa_c14_15       (PySem.FuncBody.stmts fb_c14_15) fs_c14_15 0 [] PySem.Value.none PySem.Value.none PySem.Value.none       PySem.Value.none Option.none PySem.Value.none PySem.Value.none 0))   #[]
noncomputable def o5_199 (P : Params) : Obj := PySem.Obj.mk (PySem.Value.type "code") Option.none   (PySem.Data.fields     #[PySem.Value.str (PySem.Str.ofString "finish") 432, PySem.Value.str (PySem.Str.ofString "Reader.finish") 433,       PySem.Value.str (PySem.Str.ofString "/claim/cut.py") 434, PySem.Value.int 186 0, PySem.Value.int 1 0,       PySem.Value.int 0 0, PySem.Value.int 0 0, PySem.Value.int 3 0, PySem.Value.ref 194, PySem.Value.bool Bool.true,       PySem.Value.int 181 0, PySem.Value.ref 195, PySem.Value.none, PySem.Value.ref 196, PySem.Value.ref 197,       PySem.Value.ref 198, PySem.Value.int 436 0, PySem.Value.int 186 0,       PySem.Value.str (PySem.Str.ofString "/claim/cut.py") 437])   #[]
noncomputable def o5_200 (P : Params) : Obj := PySem.Obj.mk (PySem.Value.type "function") Option.none   (PySem.Data.func     (PySem.FuncData.mk (PySem.Str.ofString "finish") (PySem.Str.ofString "Reader.finish") fa_c14_15       (PySem.FuncBody.stmts fb_c14_15) fs_c14_15 3 [] PySem.Value.none PySem.Value.none PySem.Value.none       (PySem.Value.str (PySem.Str.ofString "proofkit.reader") 246) Option.none (PySem.Value.ref 199) PySem.Value.none       0))   #[]
noncomputable def o5_201 (P : Params) : Obj := PySem.Obj.mk (PySem.Value.type "tuple") Option.none   (PySem.Data.seq     #[PySem.Value.str (PySem.Str.ofString "_at") 439, PySem.Value.str (PySem.Str.ofString "_deep") 440,       PySem.Value.str (PySem.Str.ofString "_end") 441, PySem.Value.str (PySem.Str.ofString "_tokens") 442])   #[]
noncomputable def o5_202 (P : Params) : Obj := PySem.Obj.mk (PySem.Value.type "dict") Option.none   (PySem.Data.dict     #[PySem.DictEntry.mk (PySem.PyData.keyHash P (PySem.Str.ofString "__module__"))         (PySem.Value.str (PySem.Str.ofString "__module__") 301)         (PySem.Value.str (PySem.Str.ofString "proofkit.reader") 246),       PySem.DictEntry.mk (PySem.PyData.keyHash P (PySem.Str.ofString "__firstlineno__"))         (PySem.Value.str (PySem.Str.ofString "__firstlineno__") 305) (PySem.Value.int 50 304),       PySem.DictEntry.mk (PySem.PyData.keyHash P (PySem.Str.ofString "__init__"))         (PySem.Value.str (PySem.Str.ofString "__init__") 313) (PySem.Value.ref 95),       PySem.DictEntry.mk (PySem.PyData.keyHash P (PySem.Str.ofString "peek"))         (PySem.Value.str (PySem.Str.ofString "peek") 320) (PySem.Value.ref 102),       PySem.DictEntry.mk (PySem.PyData.keyHash P (PySem.Str.ofString "place"))         (PySem.Value.str (PySem.Str.ofString "place") 327) (PySem.Value.ref 109),       PySem.DictEntry.mk (PySem.PyData.keyHash P (PySem.Str.ofString "take"))         (PySem.Value.str (PySem.Str.ofString "take") 335) (PySem.Value.ref 116),       PySem.DictEntry.mk (PySem.PyData.keyHash P (PySem.Str.ofString "need"))         (PySem.Value.str (PySem.Str.ofString "need") 343) (PySem.Value.ref 123),       PySem.DictEntry.mk (PySem.PyData.keyHash P (PySem.Str.ofString "formula"))         (PySem.Value.str (PySem.Str.ofString "formula") 352) (PySem.Value.ref 130),       PySem.DictEntry.mk (PySem.PyData.keyHash P (PySem.Str.ofString "_longer"))         (PySem.Value.str (PySem.Str.ofString "_longer") 360) (PySem.Value.ref 137),       PySem.DictEntry.mk (PySem.PyData.keyHash P (PySem.Str.ofString "implication"))         (PySem.Value.str (PySem.Str.ofString "implication") 369) (PySem.Value.ref 144),       PySem.DictEntry.mk (PySem.PyData.keyHash P (PySem.Str.ofString "disjunction"))         (PySem.Value.str (PySem.Str.ofString "disjunction") 378) (PySem.Value.ref 151),       PySem.DictEntry.mk (PySem.PyData.keyHash P (PySem.Str.ofString "conjunction"))         (PySem.Value.str (PySem.Str.ofString "conjunction") 387) (PySem.Value.ref 158),       PySem.DictEntry.mk (PySem.PyData.keyHash P (PySem.Str.ofString "simple"))         (PySem.Value.str (PySem.Str.ofString "simple") 395) (PySem.Value.ref 165),       PySem.DictEntry.mk (PySem.PyData.keyHash P (PySem.Str.ofString "_simple"))         (PySem.Value.str (PySem.Str.ofString "_simple") 406) (PySem.Value.ref 172),       PySem.DictEntry.mk (PySem.PyData.keyHash P (PySem.Str.ofString "name"))         (PySem.Value.str (PySem.Str.ofString "name") 414) (PySem.Value.ref 179),       PySem.DictEntry.mk (PySem.PyData.keyHash P (PySem.Str.ofString "arguments"))         (PySem.Value.str (PySem.Str.ofString "arguments") 422) (PySem.Value.ref 186),       PySem.DictEntry.mk (PySem.PyData.keyHash P (PySem.Str.ofString "term"))         (PySem.Value.str (PySem.Str.ofString "term") 431) (PySem.Value.ref 193),       PySem.DictEntry.mk (PySem.PyData.keyHash P (PySem.Str.ofString "finish"))         (PySem.Value.str (PySem.Str.ofString "finish") 438) (PySem.Value.ref 200),       PySem.DictEntry.mk (PySem.PyData.keyHash P (PySem.Str.ofString "__static_attributes__"))         (PySem.Value.str (PySem.Str.ofString "__static_attributes__") 443) (PySem.Value.ref 201),       PySem.DictEntry.mk (PySem.PyData.keyHash P (PySem.Str.ofString "__dict__"))         (PySem.Value.str (PySem.Str.ofString "__dict__") 445) (PySem.Value.ref 204),       PySem.DictEntry.mk (PySem.PyData.keyHash P (PySem.Str.ofString "__weakref__"))         (PySem.Value.str (PySem.Str.ofString "__weakref__") 447) (PySem.Value.ref 205),       PySem.DictEntry.mk (PySem.PyData.keyHash P (PySem.Str.ofString "__doc__"))         (PySem.Value.str (PySem.Str.ofString "__doc__") 448) PySem.Value.none]     4)   #[]
noncomputable def o5_203 (P : Params) : Obj := PySem.Obj.mk (PySem.Value.type "type") Option.none   (PySem.Data.cls     (PySem.ClassData.mk (PySem.Str.ofString "Reader") [PySem.Value.type "object"]       [PySem.Value.ref 203, PySem.Value.type "object"] 202 (PySem.Str.ofString "Reader") Bool.true [] [] Bool.false       Option.none Bool.false))   #[Option.none, Option.none, Option.some (PySem.Value.str (PySem.Str.ofString "Reader") 294),     Option.some (PySem.Value.str (PySem.Str.ofString "Reader") 302), Option.some (PySem.Value.builtin "object.__new__"),     Option.some (PySem.Value.bool Bool.true)]
noncomputable def o5_204 (P : Params) : Obj := PySem.Obj.mk (PySem.Value.type "getset_descriptor") Option.none   (PySem.Data.fields     #[PySem.Value.str (PySem.Str.ofString "__dict__") 444, PySem.Value.ref 203, PySem.Value.builtin "function.__dict__",       PySem.Value.builtin "function.__dict__#set"])   #[]
noncomputable def o5_205 (P : Params) : Obj := PySem.Obj.mk (PySem.Value.type "getset_descriptor") Option.none   (PySem.Data.fields     #[PySem.Value.str (PySem.Str.ofString "__weakref__") 446, PySem.Value.ref 203,       PySem.Value.builtin "ExceptionGroup.__weakref__", PySem.Value.none])   #[]
noncomputable def o5_206 (P : Params) : Obj := PySem.Obj.mk (PySem.Value.type "super") Option.none   (PySem.Data.fields #[PySem.Value.ref 203, PySem.Value.ref 203, PySem.Value.ref 203]) #[]
noncomputable def o5_207 (P : Params) : Obj := PySem.Obj.mk (PySem.Value.type "builtin_function_or_method") Option.none   (PySem.Data.fields #[PySem.Value.builtin "object.__init_subclass__", PySem.Value.ref 203]) #[]
noncomputable def h5 (P : Params) : Heap := ⟨⟨[PySem.W.boot_o_0 P, PySem.W.boot_o_1 P, PySem.W.boot_o_2 P, o5_3 P, PySem.W.boot_o_4 P, PySem.W.boot_o_5 P, PySem.W.boot_o_6 P, PySem.W.boot_o_7 P, PySem.W.boot_o_8 P, PySem.W.boot_o_9 P, PySem.W.boot_o_10 P, o0_11 P, o5_12 P, o0_13 P, o0_14 P, o2_15 P, o2_16 P, o2_17 P, o2_18 P, o2_19 P, o2_20 P, o2_21 P, o2_22 P, o2_23 P, o3_24 P, o2_25 P, o2_26 P, o2_27 P, o3_28 P, o3_29 P, o3_30 P, o3_31 P, o3_32 P, o3_33 P, o3_34 P, o3_35 P, o3_36 P, o3_37 P, o3_38 P, o3_39 P, o3_40 P, o3_41 P, o3_42 P, o3_43 P, o3_44 P, o3_45 P, o3_46 P, o4_47 P, o4_48 P, o4_49 P, o4_50 P, o4_51 P, o4_52 P, o4_53 P, o4_54 P, o4_55 P, o4_56 P, o4_57 P, o4_58 P, o4_59 P, o4_60 P, o4_61 P, o4_62 P, o4_63 P, o4_64 P, o4_65 P, o4_66 P, o4_67 P, o4_68 P, o4_69 P, o4_70 P, o4_71 P, o4_72 P, o4_73 P, o4_74 P, o4_75 P, o4_76 P, o4_77 P, o4_78 P, o4_79 P, o4_80 P, o4_81 P, o5_82 P, o5_83 P, o5_84 P, o5_85 P, o5_86 P, o5_87 P, o5_88 P, o5_89 P, o5_90 P, o5_91 P, o5_92 P, o5_93 P, o5_94 P, o5_95 P, o5_96 P, o5_97 P, o5_98 P, o5_99 P, o5_100 P, o5_101 P, o5_102 P, o5_103 P, o5_104 P, o5_105 P, o5_106 P, o5_107 P, o5_108 P, o5_109 P, o5_110 P, o5_111 P, o5_112 P, o5_113 P, o5_114 P, o5_115 P, o5_116 P, o5_117 P, o5_118 P, o5_119 P, o5_120 P, o5_121 P, o5_122 P, o5_123 P, o5_124 P, o5_125 P, o5_126 P, o5_127 P, o5_128 P, o5_129 P, o5_130 P, o5_131 P, o5_132 P, o5_133 P, o5_134 P, o5_135 P, o5_136 P, o5_137 P, o5_138 P, o5_139 P, o5_140 P, o5_141 P, o5_142 P, o5_143 P, o5_144 P, o5_145 P, o5_146 P, o5_147 P, o5_148 P, o5_149 P, o5_150 P, o5_151 P, o5_152 P, o5_153 P, o5_154 P, o5_155 P, o5_156 P, o5_157 P, o5_158 P, o5_159 P, o5_160 P, o5_161 P, o5_162 P, o5_163 P, o5_164 P, o5_165 P, o5_166 P, o5_167 P, o5_168 P, o5_169 P, o5_170 P, o5_171 P, o5_172 P, o5_173 P, o5_174 P, o5_175 P, o5_176 P, o5_177 P, o5_178 P, o5_179 P, o5_180 P, o5_181 P, o5_182 P, o5_183 P, o5_184 P, o5_185 P, o5_186 P, o5_187 P, o5_188 P, o5_189 P, o5_190 P, o5_191 P, o5_192 P, o5_193 P, o5_194 P, o5_195 P, o5_196 P, o5_197 P, o5_198 P, o5_199 P, o5_200 P, o5_201 P, o5_202 P, o5_203 P, o5_204 P, o5_205 P, o5_206 P, o5_207 P]⟩, PySem.Life.mk [] [] [] 0 [] [] Bool.false #[] [] 0 Bool.false Bool.false Bool.false 0 [2000, 10, 10] Bool.false 0   Bool.true [] [] 0 Bool.false⟩
noncomputable abbrev s5 (w : World) (os : OsState) : Shared := ⟨h5 w.params, ⟨[]⟩, PySem.Drawn.mk 0 0 0 0, 451, os⟩
noncomputable abbrev p5 : Pos := PySem.Pos.mk 50 0 188 64
noncomputable def o6_3 (P : Params) : Obj := PySem.Obj.mk (PySem.Value.type "dict") Option.none   (PySem.Data.dict     #[PySem.DictEntry.mk (PySem.PyData.keyHash P (PySem.Str.ofString "__name__"))         (PySem.Value.str (PySem.Str.ofString "__name__") 165)         (PySem.Value.str (PySem.Str.ofString "proofkit.reader") 246),       PySem.DictEntry.mk (PySem.PyData.keyHash P (PySem.Str.ofString "__doc__"))         (PySem.Value.str (PySem.Str.ofString "__doc__") 166) PySem.Value.none,       PySem.DictEntry.mk (PySem.PyData.keyHash P (PySem.Str.ofString "__package__"))         (PySem.Value.str (PySem.Str.ofString "__package__") 167) PySem.Value.none,       PySem.DictEntry.mk (PySem.PyData.keyHash P (PySem.Str.ofString "__loader__"))         (PySem.Value.str (PySem.Str.ofString "__loader__") 168) (PySem.Value.builtin "__main__.__loader__#opaque"),       PySem.DictEntry.mk (PySem.PyData.keyHash P (PySem.Str.ofString "__spec__"))         (PySem.Value.str (PySem.Str.ofString "__spec__") 169) PySem.Value.none,       PySem.DictEntry.mk (PySem.PyData.keyHash P (PySem.Str.ofString "__annotations__"))         (PySem.Value.str (PySem.Str.ofString "__annotations__") 170) (PySem.Value.ref 6),       PySem.DictEntry.mk (PySem.PyData.keyHash P (PySem.Str.ofString "__builtins__"))         (PySem.Value.str (PySem.Str.ofString "__builtins__") 171) (PySem.Value.ref 4),       PySem.DictEntry.mk (PySem.PyData.keyHash P (PySem.Str.ofString "__file__"))         (PySem.Value.str (PySem.Str.ofString "__file__") 173)         (PySem.Value.str (PySem.Str.ofString "/claim/cut.py") 172),       PySem.DictEntry.mk (PySem.PyData.keyHash P (PySem.Str.ofString "__cached__"))         (PySem.Value.str (PySem.Str.ofString "__cached__") 174) PySem.Value.none,       PySem.DictEntry.mk (PySem.PyData.keyHash P (PySem.Str.ofString "LogicError"))         (PySem.Value.str (PySem.Str.ofString "LogicError") 206) (PySem.Value.ref 24),       PySem.DictEntry.mk (PySem.PyData.keyHash P (PySem.Str.ofString "ReadError"))         (PySem.Value.str (PySem.Str.ofString "ReadError") 233) (PySem.Value.ref 44),       PySem.DictEntry.mk (PySem.PyData.keyHash P (PySem.Str.ofString "show"))         (PySem.Value.str (PySem.Str.ofString "show") 241) (PySem.Value.ref 51),       PySem.DictEntry.mk (PySem.PyData.keyHash P (PySem.Str.ofString "show_terms"))         (PySem.Value.str (PySem.Str.ofString "show_terms") 242) (PySem.Value.ref 51),       PySem.DictEntry.mk (PySem.PyData.keyHash P (PySem.Str.ofString "BINDERS"))         (PySem.Value.str (PySem.Str.ofString "BINDERS") 245) (PySem.Value.ref 52),       PySem.DictEntry.mk (PySem.PyData.keyHash P (PySem.Str.ofString "DEEP"))         (PySem.Value.str (PySem.Str.ofString "DEEP") 249) (PySem.Value.int 80 248),       PySem.DictEntry.mk (PySem.PyData.keyHash P (PySem.Str.ofString "SIGNS"))         (PySem.Value.str (PySem.Str.ofString "SIGNS") 260) (PySem.Value.ref 53),       PySem.DictEntry.mk (PySem.PyData.keyHash P (PySem.Str.ofString "is_letter"))         (PySem.Value.str (PySem.Str.ofString "is_letter") 267) (PySem.Value.ref 60),       PySem.DictEntry.mk (PySem.PyData.keyHash P (PySem.Str.ofString "is_rest"))         (PySem.Value.str (PySem.Str.ofString "is_rest") 274) (PySem.Value.ref 67),       PySem.DictEntry.mk (PySem.PyData.keyHash P (PySem.Str.ofString "tokens"))         (PySem.Value.str (PySem.Str.ofString "tokens") 286) (PySem.Value.ref 74),       PySem.DictEntry.mk (PySem.PyData.keyHash P (PySem.Str.ofString "is_variable"))         (PySem.Value.str (PySem.Str.ofString "is_variable") 293) (PySem.Value.ref 81),       PySem.DictEntry.mk (PySem.PyData.keyHash P (PySem.Str.ofString "Reader"))         (PySem.Value.str (PySem.Str.ofString "Reader") 450) (PySem.Value.ref 203),       PySem.DictEntry.mk (PySem.PyData.keyHash P (PySem.Str.ofString "read"))         (PySem.Value.str (PySem.Str.ofString "read") 459) (PySem.Value.ref 214),       PySem.DictEntry.mk (PySem.PyData.keyHash P (PySem.Str.ofString "depth"))         (PySem.Value.str (PySem.Str.ofString "depth") 465) (PySem.Value.ref 219)]     23)   #[]
noncomputable def o6_12 (P : Params) : Obj := PySem.Obj.mk PySem.Value.none Option.none   (PySem.Data.fields     #[PySem.Value.int 2 0, PySem.Value.int 0 0, PySem.Value.ref 20, PySem.Value.int 4 0, PySem.Value.int 0 0,       PySem.Value.ref 33, PySem.Value.int 11 0, PySem.Value.int 0 0, PySem.Value.ref 50, PySem.Value.int 20 0,       PySem.Value.int 0 0, PySem.Value.ref 59, PySem.Value.int 22 0, PySem.Value.int 0 0, PySem.Value.ref 66,       PySem.Value.int 24 0, PySem.Value.int 0 0, PySem.Value.ref 73, PySem.Value.int 48 0, PySem.Value.int 0 0,       PySem.Value.ref 80, PySem.Value.int 50 0, PySem.Value.int 0 0, PySem.Value.ref 87, PySem.Value.int 189 0,       PySem.Value.int 0 0, PySem.Value.ref 213, PySem.Value.int 196 0, PySem.Value.int 0 0, PySem.Value.ref 218])   #[]
noncomputable def o6_208 (P : Params) : Obj := PySem.Obj.mk (PySem.Value.type "tuple") Option.none (PySem.Data.seq #[]) #[]
noncomputable def o6_209 (P : Params) : Obj := PySem.Obj.mk PySem.Value.none Option.none (PySem.Data.fields #[]) #[]
noncomputable def o6_210 (P : Params) : Obj := PySem.Obj.mk (PySem.Value.type "tuple") Option.none   (PySem.Data.seq     #[PySem.Value.str (PySem.Str.ofString "text") 454, PySem.Value.str (PySem.Str.ofString "reader") 455,       PySem.Value.str (PySem.Str.ofString "f") 456])   #[]
noncomputable def o6_211 (P : Params) : Obj := PySem.Obj.mk (PySem.Value.type "tuple") Option.none (PySem.Data.seq #[]) #[]
noncomputable abbrev fa_t15 : Arguments := by
  refine' (fun (k : Arguments) (_ : fnA (st 15) = k) => k) _ ?h
  case h => (conv => lhs; whnf)
noncomputable abbrev fb_t15 : List Stmt := by
  refine' (fun (k : List Stmt) (_ : fnB (st 15) = k) => k) _ ?h
  case h => (conv => lhs; whnf)
noncomputable abbrev fs_t15 : Scope := by
  refine' (fun (k : Scope) (_ : fnS (st 15) = k) => k) _ ?h
  case h => (conv => lhs; whnf)
noncomputable def o6_212 (P : Params) : Obj := PySem.Obj.mk PySem.Value.none Option.none   (PySem.Data.func     (PySem.FuncData.mk (PySem.Str.ofString "read") (PySem.Str.ofString "read") fa_t15 (PySem.FuncBody.stmts fb_t15)       fs_t15 0 [] PySem.Value.none PySem.Value.none PySem.Value.none PySem.Value.none Option.none PySem.Value.none       PySem.Value.none 0))   #[]
noncomputable def o6_213 (P : Params) : Obj := PySem.Obj.mk (PySem.Value.type "code") Option.none   (PySem.Data.fields     #[PySem.Value.str (PySem.Str.ofString "read") 451, PySem.Value.str (PySem.Str.ofString "read") 452,       PySem.Value.str (PySem.Str.ofString "/claim/cut.py") 453, PySem.Value.int 189 0, PySem.Value.int 1 0,       PySem.Value.int 0 0, PySem.Value.int 0 0, PySem.Value.int 3 0, PySem.Value.ref 208, PySem.Value.bool Bool.true,       PySem.Value.int 181 0, PySem.Value.ref 209, PySem.Value.none, PySem.Value.ref 210, PySem.Value.ref 211,       PySem.Value.ref 212, PySem.Value.int 457 0, PySem.Value.int 189 0,       PySem.Value.str (PySem.Str.ofString "/claim/cut.py") 458])   #[]
noncomputable def o6_214 (P : Params) : Obj := PySem.Obj.mk (PySem.Value.type "function") Option.none   (PySem.Data.func     (PySem.FuncData.mk (PySem.Str.ofString "read") (PySem.Str.ofString "read") fa_t15 (PySem.FuncBody.stmts fb_t15)       fs_t15 3 [] PySem.Value.none PySem.Value.none PySem.Value.none       (PySem.Value.str (PySem.Str.ofString "proofkit.reader") 246) Option.none (PySem.Value.ref 213) PySem.Value.none       0))   #[]
noncomputable def o6_215 (P : Params) : Obj := PySem.Obj.mk (PySem.Value.type "tuple") Option.none (PySem.Data.seq #[]) #[]
noncomputable def o6_216 (P : Params) : Obj := PySem.Obj.mk PySem.Value.none Option.none (PySem.Data.fields #[]) #[]
noncomputable abbrev fa_t16 : Arguments := by
  refine' (fun (k : Arguments) (_ : fnA (st 16) = k) => k) _ ?h
  case h => (conv => lhs; whnf)
noncomputable abbrev fb_t16 : List Stmt := by
  refine' (fun (k : List Stmt) (_ : fnB (st 16) = k) => k) _ ?h
  case h => (conv => lhs; whnf)
noncomputable abbrev fs_t16 : Scope := by
  refine' (fun (k : Scope) (_ : fnS (st 16) = k) => k) _ ?h
  case h => (conv => lhs; whnf)
noncomputable def o6_217 (P : Params) : Obj := PySem.Obj.mk PySem.Value.none Option.none   (PySem.Data.func     (PySem.FuncData.mk (PySem.Str.ofString "depth") (PySem.Str.ofString "depth") fa_t16 (PySem.FuncBody.stmts fb_t16)       fs_t16 0 [] PySem.Value.none PySem.Value.none PySem.Value.none PySem.Value.none Option.none PySem.Value.none       PySem.Value.none 0))   #[]
noncomputable def o6_218 (P : Params) : Obj := PySem.Obj.mk (PySem.Value.type "code") Option.none   (PySem.Data.fields     #[PySem.Value.str (PySem.Str.ofString "depth") 460, PySem.Value.str (PySem.Str.ofString "depth") 461,       PySem.Value.str (PySem.Str.ofString "/claim/cut.py") 462, PySem.Value.int 196 0, PySem.Value.int 1 0,       PySem.Value.int 0 0, PySem.Value.int 0 0, PySem.Value.int 3 0, PySem.Value.ref 215, PySem.Value.bool Bool.true,       PySem.Value.int 181 0, PySem.Value.ref 216, PySem.Value.none, PySem.Value.none, PySem.Value.none,       PySem.Value.ref 217, PySem.Value.int 463 0, PySem.Value.int 196 0,       PySem.Value.str (PySem.Str.ofString "/claim/cut.py") 464])   #[]
noncomputable def o6_219 (P : Params) : Obj := PySem.Obj.mk (PySem.Value.type "function") Option.none   (PySem.Data.func     (PySem.FuncData.mk (PySem.Str.ofString "depth") (PySem.Str.ofString "depth") fa_t16 (PySem.FuncBody.stmts fb_t16)       fs_t16 3 [] PySem.Value.none PySem.Value.none PySem.Value.none       (PySem.Value.str (PySem.Str.ofString "proofkit.reader") 246) Option.none (PySem.Value.ref 218) PySem.Value.none       0))   #[]
noncomputable def h6 (P : Params) : Heap := ⟨⟨[PySem.W.boot_o_0 P, PySem.W.boot_o_1 P, PySem.W.boot_o_2 P, o6_3 P, PySem.W.boot_o_4 P, PySem.W.boot_o_5 P, PySem.W.boot_o_6 P, PySem.W.boot_o_7 P, PySem.W.boot_o_8 P, PySem.W.boot_o_9 P, PySem.W.boot_o_10 P, o0_11 P, o6_12 P, o0_13 P, o0_14 P, o2_15 P, o2_16 P, o2_17 P, o2_18 P, o2_19 P, o2_20 P, o2_21 P, o2_22 P, o2_23 P, o3_24 P, o2_25 P, o2_26 P, o2_27 P, o3_28 P, o3_29 P, o3_30 P, o3_31 P, o3_32 P, o3_33 P, o3_34 P, o3_35 P, o3_36 P, o3_37 P, o3_38 P, o3_39 P, o3_40 P, o3_41 P, o3_42 P, o3_43 P, o3_44 P, o3_45 P, o3_46 P, o4_47 P, o4_48 P, o4_49 P, o4_50 P, o4_51 P, o4_52 P, o4_53 P, o4_54 P, o4_55 P, o4_56 P, o4_57 P, o4_58 P, o4_59 P, o4_60 P, o4_61 P, o4_62 P, o4_63 P, o4_64 P, o4_65 P, o4_66 P, o4_67 P, o4_68 P, o4_69 P, o4_70 P, o4_71 P, o4_72 P, o4_73 P, o4_74 P, o4_75 P, o4_76 P, o4_77 P, o4_78 P, o4_79 P, o4_80 P, o4_81 P, o5_82 P, o5_83 P, o5_84 P, o5_85 P, o5_86 P, o5_87 P, o5_88 P, o5_89 P, o5_90 P, o5_91 P, o5_92 P, o5_93 P, o5_94 P, o5_95 P, o5_96 P, o5_97 P, o5_98 P, o5_99 P, o5_100 P, o5_101 P, o5_102 P, o5_103 P, o5_104 P, o5_105 P, o5_106 P, o5_107 P, o5_108 P, o5_109 P, o5_110 P, o5_111 P, o5_112 P, o5_113 P, o5_114 P, o5_115 P, o5_116 P, o5_117 P, o5_118 P, o5_119 P, o5_120 P, o5_121 P, o5_122 P, o5_123 P, o5_124 P, o5_125 P, o5_126 P, o5_127 P, o5_128 P, o5_129 P, o5_130 P, o5_131 P, o5_132 P, o5_133 P, o5_134 P, o5_135 P, o5_136 P, o5_137 P, o5_138 P, o5_139 P, o5_140 P, o5_141 P, o5_142 P, o5_143 P, o5_144 P, o5_145 P, o5_146 P, o5_147 P, o5_148 P, o5_149 P, o5_150 P, o5_151 P, o5_152 P, o5_153 P, o5_154 P, o5_155 P, o5_156 P, o5_157 P, o5_158 P, o5_159 P, o5_160 P, o5_161 P, o5_162 P, o5_163 P, o5_164 P, o5_165 P, o5_166 P, o5_167 P, o5_168 P, o5_169 P, o5_170 P, o5_171 P, o5_172 P, o5_173 P, o5_174 P, o5_175 P, o5_176 P, o5_177 P, o5_178 P, o5_179 P, o5_180 P, o5_181 P, o5_182 P, o5_183 P, o5_184 P, o5_185 P, o5_186 P, o5_187 P, o5_188 P, o5_189 P, o5_190 P, o5_191 P, o5_192 P, o5_193 P, o5_194 P, o5_195 P, o5_196 P, o5_197 P, o5_198 P, o5_199 P, o5_200 P, o5_201 P, o5_202 P, o5_203 P, o5_204 P, o5_205 P, o5_206 P, o5_207 P, o6_208 P, o6_209 P, o6_210 P, o6_211 P, o6_212 P, o6_213 P, o6_214 P, o6_215 P, o6_216 P, o6_217 P, o6_218 P, o6_219 P]⟩, PySem.Life.mk [] [] [] 0 [] [] Bool.false #[] [] 0 Bool.false Bool.false Bool.false 0 [2000, 10, 10] Bool.false 0   Bool.true [] [] 0 Bool.false⟩
noncomputable abbrev s6 (w : World) (os : OsState) : Shared := ⟨h6 w.params, ⟨[]⟩, PySem.Drawn.mk 0 0 0 0, 466, os⟩
noncomputable abbrev p6 : Pos := PySem.Pos.mk 196 0 208 18
noncomputable def o7_3 (P : Params) : Obj := PySem.Obj.mk (PySem.Value.type "dict") Option.none   (PySem.Data.dict     #[PySem.DictEntry.mk (PySem.PyData.keyHash P (PySem.Str.ofString "__name__"))         (PySem.Value.str (PySem.Str.ofString "__name__") 165)         (PySem.Value.str (PySem.Str.ofString "proofkit.reader") 246),       PySem.DictEntry.mk (PySem.PyData.keyHash P (PySem.Str.ofString "__doc__"))         (PySem.Value.str (PySem.Str.ofString "__doc__") 166) PySem.Value.none,       PySem.DictEntry.mk (PySem.PyData.keyHash P (PySem.Str.ofString "__package__"))         (PySem.Value.str (PySem.Str.ofString "__package__") 167) PySem.Value.none,       PySem.DictEntry.mk (PySem.PyData.keyHash P (PySem.Str.ofString "__loader__"))         (PySem.Value.str (PySem.Str.ofString "__loader__") 168) (PySem.Value.builtin "__main__.__loader__#opaque"),       PySem.DictEntry.mk (PySem.PyData.keyHash P (PySem.Str.ofString "__spec__"))         (PySem.Value.str (PySem.Str.ofString "__spec__") 169) PySem.Value.none,       PySem.DictEntry.mk (PySem.PyData.keyHash P (PySem.Str.ofString "__annotations__"))         (PySem.Value.str (PySem.Str.ofString "__annotations__") 170) (PySem.Value.ref 6),       PySem.DictEntry.mk (PySem.PyData.keyHash P (PySem.Str.ofString "__builtins__"))         (PySem.Value.str (PySem.Str.ofString "__builtins__") 171) (PySem.Value.ref 4),       PySem.DictEntry.mk (PySem.PyData.keyHash P (PySem.Str.ofString "__file__"))         (PySem.Value.str (PySem.Str.ofString "__file__") 173)         (PySem.Value.str (PySem.Str.ofString "/claim/cut.py") 172),       PySem.DictEntry.mk (PySem.PyData.keyHash P (PySem.Str.ofString "__cached__"))         (PySem.Value.str (PySem.Str.ofString "__cached__") 174) PySem.Value.none,       PySem.DictEntry.mk (PySem.PyData.keyHash P (PySem.Str.ofString "LogicError"))         (PySem.Value.str (PySem.Str.ofString "LogicError") 206) (PySem.Value.ref 24),       PySem.DictEntry.mk (PySem.PyData.keyHash P (PySem.Str.ofString "ReadError"))         (PySem.Value.str (PySem.Str.ofString "ReadError") 233) (PySem.Value.ref 44),       PySem.DictEntry.mk (PySem.PyData.keyHash P (PySem.Str.ofString "show"))         (PySem.Value.str (PySem.Str.ofString "show") 241) (PySem.Value.ref 51),       PySem.DictEntry.mk (PySem.PyData.keyHash P (PySem.Str.ofString "show_terms"))         (PySem.Value.str (PySem.Str.ofString "show_terms") 242) (PySem.Value.ref 51),       PySem.DictEntry.mk (PySem.PyData.keyHash P (PySem.Str.ofString "BINDERS"))         (PySem.Value.str (PySem.Str.ofString "BINDERS") 245) (PySem.Value.ref 52),       PySem.DictEntry.mk (PySem.PyData.keyHash P (PySem.Str.ofString "DEEP"))         (PySem.Value.str (PySem.Str.ofString "DEEP") 249) (PySem.Value.int 80 248),       PySem.DictEntry.mk (PySem.PyData.keyHash P (PySem.Str.ofString "SIGNS"))         (PySem.Value.str (PySem.Str.ofString "SIGNS") 260) (PySem.Value.ref 53),       PySem.DictEntry.mk (PySem.PyData.keyHash P (PySem.Str.ofString "is_letter"))         (PySem.Value.str (PySem.Str.ofString "is_letter") 267) (PySem.Value.ref 60),       PySem.DictEntry.mk (PySem.PyData.keyHash P (PySem.Str.ofString "is_rest"))         (PySem.Value.str (PySem.Str.ofString "is_rest") 274) (PySem.Value.ref 67),       PySem.DictEntry.mk (PySem.PyData.keyHash P (PySem.Str.ofString "tokens"))         (PySem.Value.str (PySem.Str.ofString "tokens") 286) (PySem.Value.ref 74),       PySem.DictEntry.mk (PySem.PyData.keyHash P (PySem.Str.ofString "is_variable"))         (PySem.Value.str (PySem.Str.ofString "is_variable") 293) (PySem.Value.ref 81),       PySem.DictEntry.mk (PySem.PyData.keyHash P (PySem.Str.ofString "Reader"))         (PySem.Value.str (PySem.Str.ofString "Reader") 450) (PySem.Value.ref 203),       PySem.DictEntry.mk (PySem.PyData.keyHash P (PySem.Str.ofString "read"))         (PySem.Value.str (PySem.Str.ofString "read") 459) (PySem.Value.ref 214),       PySem.DictEntry.mk (PySem.PyData.keyHash P (PySem.Str.ofString "depth"))         (PySem.Value.str (PySem.Str.ofString "depth") 465) (PySem.Value.ref 219),       PySem.DictEntry.mk (PySem.PyData.keyHash P (PySem.Str.ofString "_LEVELS"))         (PySem.Value.str (PySem.Str.ofString "_LEVELS") 478) (PySem.Value.ref 220)]     24)   #[]
noncomputable def o7_220 (P : Params) : Obj := PySem.Obj.mk (PySem.Value.type "dict") Option.none   (PySem.Data.dict     #[PySem.DictEntry.mk (PySem.PyData.keyHash P (PySem.Str.ofString "iff"))         (PySem.Value.str (PySem.Str.ofString "iff") 466) (PySem.Value.int 1 467),       PySem.DictEntry.mk (PySem.PyData.keyHash P (PySem.Str.ofString "implies"))         (PySem.Value.str (PySem.Str.ofString "implies") 468) (PySem.Value.int 2 469),       PySem.DictEntry.mk (PySem.PyData.keyHash P (PySem.Str.ofString "or"))         (PySem.Value.str (PySem.Str.ofString "or") 470) (PySem.Value.int 3 471),       PySem.DictEntry.mk (PySem.PyData.keyHash P (PySem.Str.ofString "and"))         (PySem.Value.str (PySem.Str.ofString "and") 472) (PySem.Value.int 4 473)]     4)   #[]
noncomputable def h7 (P : Params) : Heap := ⟨⟨[PySem.W.boot_o_0 P, PySem.W.boot_o_1 P, PySem.W.boot_o_2 P, o7_3 P, PySem.W.boot_o_4 P, PySem.W.boot_o_5 P, PySem.W.boot_o_6 P, PySem.W.boot_o_7 P, PySem.W.boot_o_8 P, PySem.W.boot_o_9 P, PySem.W.boot_o_10 P, o0_11 P, o6_12 P, o0_13 P, o0_14 P, o2_15 P, o2_16 P, o2_17 P, o2_18 P, o2_19 P, o2_20 P, o2_21 P, o2_22 P, o2_23 P, o3_24 P, o2_25 P, o2_26 P, o2_27 P, o3_28 P, o3_29 P, o3_30 P, o3_31 P, o3_32 P, o3_33 P, o3_34 P, o3_35 P, o3_36 P, o3_37 P, o3_38 P, o3_39 P, o3_40 P, o3_41 P, o3_42 P, o3_43 P, o3_44 P, o3_45 P, o3_46 P, o4_47 P, o4_48 P, o4_49 P, o4_50 P, o4_51 P, o4_52 P, o4_53 P, o4_54 P, o4_55 P, o4_56 P, o4_57 P, o4_58 P, o4_59 P, o4_60 P, o4_61 P, o4_62 P, o4_63 P, o4_64 P, o4_65 P, o4_66 P, o4_67 P, o4_68 P, o4_69 P, o4_70 P, o4_71 P, o4_72 P, o4_73 P, o4_74 P, o4_75 P, o4_76 P, o4_77 P, o4_78 P, o4_79 P, o4_80 P, o4_81 P, o5_82 P, o5_83 P, o5_84 P, o5_85 P, o5_86 P, o5_87 P, o5_88 P, o5_89 P, o5_90 P, o5_91 P, o5_92 P, o5_93 P, o5_94 P, o5_95 P, o5_96 P, o5_97 P, o5_98 P, o5_99 P, o5_100 P, o5_101 P, o5_102 P, o5_103 P, o5_104 P, o5_105 P, o5_106 P, o5_107 P, o5_108 P, o5_109 P, o5_110 P, o5_111 P, o5_112 P, o5_113 P, o5_114 P, o5_115 P, o5_116 P, o5_117 P, o5_118 P, o5_119 P, o5_120 P, o5_121 P, o5_122 P, o5_123 P, o5_124 P, o5_125 P, o5_126 P, o5_127 P, o5_128 P, o5_129 P, o5_130 P, o5_131 P, o5_132 P, o5_133 P, o5_134 P, o5_135 P, o5_136 P, o5_137 P, o5_138 P, o5_139 P, o5_140 P, o5_141 P, o5_142 P, o5_143 P, o5_144 P, o5_145 P, o5_146 P, o5_147 P, o5_148 P, o5_149 P, o5_150 P, o5_151 P, o5_152 P, o5_153 P, o5_154 P, o5_155 P, o5_156 P, o5_157 P, o5_158 P, o5_159 P, o5_160 P, o5_161 P, o5_162 P, o5_163 P, o5_164 P, o5_165 P, o5_166 P, o5_167 P, o5_168 P, o5_169 P, o5_170 P, o5_171 P, o5_172 P, o5_173 P, o5_174 P, o5_175 P, o5_176 P, o5_177 P, o5_178 P, o5_179 P, o5_180 P, o5_181 P, o5_182 P, o5_183 P, o5_184 P, o5_185 P, o5_186 P, o5_187 P, o5_188 P, o5_189 P, o5_190 P, o5_191 P, o5_192 P, o5_193 P, o5_194 P, o5_195 P, o5_196 P, o5_197 P, o5_198 P, o5_199 P, o5_200 P, o5_201 P, o5_202 P, o5_203 P, o5_204 P, o5_205 P, o5_206 P, o5_207 P, o6_208 P, o6_209 P, o6_210 P, o6_211 P, o6_212 P, o6_213 P, o6_214 P, o6_215 P, o6_216 P, o6_217 P, o6_218 P, o6_219 P, o7_220 P]⟩, PySem.Life.mk [] [] [] 0 [] [] Bool.false #[] [] 0 Bool.false Bool.false Bool.false 0 [2000, 10, 10] Bool.false 0   Bool.true [] [] 0 Bool.false⟩
noncomputable abbrev s7 (w : World) (os : OsState) : Shared := ⟨h7 w.params, ⟨[]⟩, PySem.Drawn.mk 0 0 0 0, 479, os⟩
noncomputable abbrev p7 : Pos := PySem.Pos.mk 209 0 209 7
noncomputable def o8_3 (P : Params) : Obj := PySem.Obj.mk (PySem.Value.type "dict") Option.none   (PySem.Data.dict     #[PySem.DictEntry.mk (PySem.PyData.keyHash P (PySem.Str.ofString "__name__"))         (PySem.Value.str (PySem.Str.ofString "__name__") 165)         (PySem.Value.str (PySem.Str.ofString "proofkit.reader") 246),       PySem.DictEntry.mk (PySem.PyData.keyHash P (PySem.Str.ofString "__doc__"))         (PySem.Value.str (PySem.Str.ofString "__doc__") 166) PySem.Value.none,       PySem.DictEntry.mk (PySem.PyData.keyHash P (PySem.Str.ofString "__package__"))         (PySem.Value.str (PySem.Str.ofString "__package__") 167) PySem.Value.none,       PySem.DictEntry.mk (PySem.PyData.keyHash P (PySem.Str.ofString "__loader__"))         (PySem.Value.str (PySem.Str.ofString "__loader__") 168) (PySem.Value.builtin "__main__.__loader__#opaque"),       PySem.DictEntry.mk (PySem.PyData.keyHash P (PySem.Str.ofString "__spec__"))         (PySem.Value.str (PySem.Str.ofString "__spec__") 169) PySem.Value.none,       PySem.DictEntry.mk (PySem.PyData.keyHash P (PySem.Str.ofString "__annotations__"))         (PySem.Value.str (PySem.Str.ofString "__annotations__") 170) (PySem.Value.ref 6),       PySem.DictEntry.mk (PySem.PyData.keyHash P (PySem.Str.ofString "__builtins__"))         (PySem.Value.str (PySem.Str.ofString "__builtins__") 171) (PySem.Value.ref 4),       PySem.DictEntry.mk (PySem.PyData.keyHash P (PySem.Str.ofString "__file__"))         (PySem.Value.str (PySem.Str.ofString "__file__") 173)         (PySem.Value.str (PySem.Str.ofString "/claim/cut.py") 172),       PySem.DictEntry.mk (PySem.PyData.keyHash P (PySem.Str.ofString "__cached__"))         (PySem.Value.str (PySem.Str.ofString "__cached__") 174) PySem.Value.none,       PySem.DictEntry.mk (PySem.PyData.keyHash P (PySem.Str.ofString "LogicError"))         (PySem.Value.str (PySem.Str.ofString "LogicError") 206) (PySem.Value.ref 24),       PySem.DictEntry.mk (PySem.PyData.keyHash P (PySem.Str.ofString "ReadError"))         (PySem.Value.str (PySem.Str.ofString "ReadError") 233) (PySem.Value.ref 44),       PySem.DictEntry.mk (PySem.PyData.keyHash P (PySem.Str.ofString "show"))         (PySem.Value.str (PySem.Str.ofString "show") 241) (PySem.Value.ref 51),       PySem.DictEntry.mk (PySem.PyData.keyHash P (PySem.Str.ofString "show_terms"))         (PySem.Value.str (PySem.Str.ofString "show_terms") 242) (PySem.Value.ref 51),       PySem.DictEntry.mk (PySem.PyData.keyHash P (PySem.Str.ofString "BINDERS"))         (PySem.Value.str (PySem.Str.ofString "BINDERS") 245) (PySem.Value.ref 52),       PySem.DictEntry.mk (PySem.PyData.keyHash P (PySem.Str.ofString "DEEP"))         (PySem.Value.str (PySem.Str.ofString "DEEP") 249) (PySem.Value.int 80 248),       PySem.DictEntry.mk (PySem.PyData.keyHash P (PySem.Str.ofString "SIGNS"))         (PySem.Value.str (PySem.Str.ofString "SIGNS") 260) (PySem.Value.ref 53),       PySem.DictEntry.mk (PySem.PyData.keyHash P (PySem.Str.ofString "is_letter"))         (PySem.Value.str (PySem.Str.ofString "is_letter") 267) (PySem.Value.ref 60),       PySem.DictEntry.mk (PySem.PyData.keyHash P (PySem.Str.ofString "is_rest"))         (PySem.Value.str (PySem.Str.ofString "is_rest") 274) (PySem.Value.ref 67),       PySem.DictEntry.mk (PySem.PyData.keyHash P (PySem.Str.ofString "tokens"))         (PySem.Value.str (PySem.Str.ofString "tokens") 286) (PySem.Value.ref 74),       PySem.DictEntry.mk (PySem.PyData.keyHash P (PySem.Str.ofString "is_variable"))         (PySem.Value.str (PySem.Str.ofString "is_variable") 293) (PySem.Value.ref 81),       PySem.DictEntry.mk (PySem.PyData.keyHash P (PySem.Str.ofString "Reader"))         (PySem.Value.str (PySem.Str.ofString "Reader") 450) (PySem.Value.ref 203),       PySem.DictEntry.mk (PySem.PyData.keyHash P (PySem.Str.ofString "read"))         (PySem.Value.str (PySem.Str.ofString "read") 459) (PySem.Value.ref 214),       PySem.DictEntry.mk (PySem.PyData.keyHash P (PySem.Str.ofString "depth"))         (PySem.Value.str (PySem.Str.ofString "depth") 465) (PySem.Value.ref 219),       PySem.DictEntry.mk (PySem.PyData.keyHash P (PySem.Str.ofString "_LEVELS"))         (PySem.Value.str (PySem.Str.ofString "_LEVELS") 478) (PySem.Value.ref 220),       PySem.DictEntry.mk (PySem.PyData.keyHash P (PySem.Str.ofString "_SIGNS"))         (PySem.Value.str (PySem.Str.ofString "_SIGNS") 491) (PySem.Value.ref 221)]     25)   #[]
noncomputable def o8_221 (P : Params) : Obj := PySem.Obj.mk (PySem.Value.type "dict") Option.none   (PySem.Data.dict     #[PySem.DictEntry.mk (PySem.PyData.keyHash P (PySem.Str.ofString "iff"))         (PySem.Value.str (PySem.Str.ofString "iff") 479) (PySem.Value.str (PySem.Str.ofString " <-> ") 480),       PySem.DictEntry.mk (PySem.PyData.keyHash P (PySem.Str.ofString "implies"))         (PySem.Value.str (PySem.Str.ofString "implies") 481) (PySem.Value.str (PySem.Str.ofString " -> ") 482),       PySem.DictEntry.mk (PySem.PyData.keyHash P (PySem.Str.ofString "or"))         (PySem.Value.str (PySem.Str.ofString "or") 483) (PySem.Value.str (PySem.Str.ofString " | ") 484),       PySem.DictEntry.mk (PySem.PyData.keyHash P (PySem.Str.ofString "and"))         (PySem.Value.str (PySem.Str.ofString "and") 485) (PySem.Value.str (PySem.Str.ofString " & ") 486)]     4)   #[]
noncomputable def h8 (P : Params) : Heap := ⟨⟨[PySem.W.boot_o_0 P, PySem.W.boot_o_1 P, PySem.W.boot_o_2 P, o8_3 P, PySem.W.boot_o_4 P, PySem.W.boot_o_5 P, PySem.W.boot_o_6 P, PySem.W.boot_o_7 P, PySem.W.boot_o_8 P, PySem.W.boot_o_9 P, PySem.W.boot_o_10 P, o0_11 P, o6_12 P, o0_13 P, o0_14 P, o2_15 P, o2_16 P, o2_17 P, o2_18 P, o2_19 P, o2_20 P, o2_21 P, o2_22 P, o2_23 P, o3_24 P, o2_25 P, o2_26 P, o2_27 P, o3_28 P, o3_29 P, o3_30 P, o3_31 P, o3_32 P, o3_33 P, o3_34 P, o3_35 P, o3_36 P, o3_37 P, o3_38 P, o3_39 P, o3_40 P, o3_41 P, o3_42 P, o3_43 P, o3_44 P, o3_45 P, o3_46 P, o4_47 P, o4_48 P, o4_49 P, o4_50 P, o4_51 P, o4_52 P, o4_53 P, o4_54 P, o4_55 P, o4_56 P, o4_57 P, o4_58 P, o4_59 P, o4_60 P, o4_61 P, o4_62 P, o4_63 P, o4_64 P, o4_65 P, o4_66 P, o4_67 P, o4_68 P, o4_69 P, o4_70 P, o4_71 P, o4_72 P, o4_73 P, o4_74 P, o4_75 P, o4_76 P, o4_77 P, o4_78 P, o4_79 P, o4_80 P, o4_81 P, o5_82 P, o5_83 P, o5_84 P, o5_85 P, o5_86 P, o5_87 P, o5_88 P, o5_89 P, o5_90 P, o5_91 P, o5_92 P, o5_93 P, o5_94 P, o5_95 P, o5_96 P, o5_97 P, o5_98 P, o5_99 P, o5_100 P, o5_101 P, o5_102 P, o5_103 P, o5_104 P, o5_105 P, o5_106 P, o5_107 P, o5_108 P, o5_109 P, o5_110 P, o5_111 P, o5_112 P, o5_113 P, o5_114 P, o5_115 P, o5_116 P, o5_117 P, o5_118 P, o5_119 P, o5_120 P, o5_121 P, o5_122 P, o5_123 P, o5_124 P, o5_125 P, o5_126 P, o5_127 P, o5_128 P, o5_129 P, o5_130 P, o5_131 P, o5_132 P, o5_133 P, o5_134 P, o5_135 P, o5_136 P, o5_137 P, o5_138 P, o5_139 P, o5_140 P, o5_141 P, o5_142 P, o5_143 P, o5_144 P, o5_145 P, o5_146 P, o5_147 P, o5_148 P, o5_149 P, o5_150 P, o5_151 P, o5_152 P, o5_153 P, o5_154 P, o5_155 P, o5_156 P, o5_157 P, o5_158 P, o5_159 P, o5_160 P, o5_161 P, o5_162 P, o5_163 P, o5_164 P, o5_165 P, o5_166 P, o5_167 P, o5_168 P, o5_169 P, o5_170 P, o5_171 P, o5_172 P, o5_173 P, o5_174 P, o5_175 P, o5_176 P, o5_177 P, o5_178 P, o5_179 P, o5_180 P, o5_181 P, o5_182 P, o5_183 P, o5_184 P, o5_185 P, o5_186 P, o5_187 P, o5_188 P, o5_189 P, o5_190 P, o5_191 P, o5_192 P, o5_193 P, o5_194 P, o5_195 P, o5_196 P, o5_197 P, o5_198 P, o5_199 P, o5_200 P, o5_201 P, o5_202 P, o5_203 P, o5_204 P, o5_205 P, o5_206 P, o5_207 P, o6_208 P, o6_209 P, o6_210 P, o6_211 P, o6_212 P, o6_213 P, o6_214 P, o6_215 P, o6_216 P, o6_217 P, o6_218 P, o6_219 P, o7_220 P, o8_221 P]⟩, PySem.Life.mk [] [] [] 0 [] [] Bool.false #[] [] 0 Bool.false Bool.false Bool.false 0 [2000, 10, 10] Bool.false 0   Bool.true [] [] 0 Bool.false⟩
noncomputable abbrev s8 (w : World) (os : OsState) : Shared := ⟨h8 w.params, ⟨[]⟩, PySem.Drawn.mk 0 0 0 0, 492, os⟩
noncomputable abbrev p8 : Pos := PySem.Pos.mk 210 0 210 6
noncomputable def o9_3 (P : Params) : Obj := PySem.Obj.mk (PySem.Value.type "dict") Option.none   (PySem.Data.dict     #[PySem.DictEntry.mk (PySem.PyData.keyHash P (PySem.Str.ofString "__name__"))         (PySem.Value.str (PySem.Str.ofString "__name__") 165)         (PySem.Value.str (PySem.Str.ofString "law_ui0505_05") 506),       PySem.DictEntry.mk (PySem.PyData.keyHash P (PySem.Str.ofString "__doc__"))         (PySem.Value.str (PySem.Str.ofString "__doc__") 166) PySem.Value.none,       PySem.DictEntry.mk (PySem.PyData.keyHash P (PySem.Str.ofString "__package__"))         (PySem.Value.str (PySem.Str.ofString "__package__") 167) PySem.Value.none,       PySem.DictEntry.mk (PySem.PyData.keyHash P (PySem.Str.ofString "__loader__"))         (PySem.Value.str (PySem.Str.ofString "__loader__") 168) (PySem.Value.builtin "__main__.__loader__#opaque"),       PySem.DictEntry.mk (PySem.PyData.keyHash P (PySem.Str.ofString "__spec__"))         (PySem.Value.str (PySem.Str.ofString "__spec__") 169) PySem.Value.none,       PySem.DictEntry.mk (PySem.PyData.keyHash P (PySem.Str.ofString "__annotations__"))         (PySem.Value.str (PySem.Str.ofString "__annotations__") 170) (PySem.Value.ref 6),       PySem.DictEntry.mk (PySem.PyData.keyHash P (PySem.Str.ofString "__builtins__"))         (PySem.Value.str (PySem.Str.ofString "__builtins__") 171) (PySem.Value.ref 4),       PySem.DictEntry.mk (PySem.PyData.keyHash P (PySem.Str.ofString "__file__"))         (PySem.Value.str (PySem.Str.ofString "__file__") 173)         (PySem.Value.str (PySem.Str.ofString "/claim/cut.py") 172),       PySem.DictEntry.mk (PySem.PyData.keyHash P (PySem.Str.ofString "__cached__"))         (PySem.Value.str (PySem.Str.ofString "__cached__") 174) PySem.Value.none,       PySem.DictEntry.mk (PySem.PyData.keyHash P (PySem.Str.ofString "LogicError"))         (PySem.Value.str (PySem.Str.ofString "LogicError") 206) (PySem.Value.ref 24),       PySem.DictEntry.mk (PySem.PyData.keyHash P (PySem.Str.ofString "ReadError"))         (PySem.Value.str (PySem.Str.ofString "ReadError") 233) (PySem.Value.ref 44),       PySem.DictEntry.mk (PySem.PyData.keyHash P (PySem.Str.ofString "show"))         (PySem.Value.str (PySem.Str.ofString "show") 241) (PySem.Value.ref 228),       PySem.DictEntry.mk (PySem.PyData.keyHash P (PySem.Str.ofString "show_terms"))         (PySem.Value.str (PySem.Str.ofString "show_terms") 242) (PySem.Value.ref 51),       PySem.DictEntry.mk (PySem.PyData.keyHash P (PySem.Str.ofString "BINDERS"))         (PySem.Value.str (PySem.Str.ofString "BINDERS") 245) (PySem.Value.ref 52),       PySem.DictEntry.mk (PySem.PyData.keyHash P (PySem.Str.ofString "DEEP"))         (PySem.Value.str (PySem.Str.ofString "DEEP") 249) (PySem.Value.int 80 248),       PySem.DictEntry.mk (PySem.PyData.keyHash P (PySem.Str.ofString "SIGNS"))         (PySem.Value.str (PySem.Str.ofString "SIGNS") 260) (PySem.Value.ref 53),       PySem.DictEntry.mk (PySem.PyData.keyHash P (PySem.Str.ofString "is_letter"))         (PySem.Value.str (PySem.Str.ofString "is_letter") 267) (PySem.Value.ref 60),       PySem.DictEntry.mk (PySem.PyData.keyHash P (PySem.Str.ofString "is_rest"))         (PySem.Value.str (PySem.Str.ofString "is_rest") 274) (PySem.Value.ref 67),       PySem.DictEntry.mk (PySem.PyData.keyHash P (PySem.Str.ofString "tokens"))         (PySem.Value.str (PySem.Str.ofString "tokens") 286) (PySem.Value.ref 74),       PySem.DictEntry.mk (PySem.PyData.keyHash P (PySem.Str.ofString "is_variable"))         (PySem.Value.str (PySem.Str.ofString "is_variable") 293) (PySem.Value.ref 81),       PySem.DictEntry.mk (PySem.PyData.keyHash P (PySem.Str.ofString "Reader"))         (PySem.Value.str (PySem.Str.ofString "Reader") 450) (PySem.Value.ref 203),       PySem.DictEntry.mk (PySem.PyData.keyHash P (PySem.Str.ofString "read"))         (PySem.Value.str (PySem.Str.ofString "read") 459) (PySem.Value.ref 214),       PySem.DictEntry.mk (PySem.PyData.keyHash P (PySem.Str.ofString "depth"))         (PySem.Value.str (PySem.Str.ofString "depth") 465) (PySem.Value.ref 219),       PySem.DictEntry.mk (PySem.PyData.keyHash P (PySem.Str.ofString "_LEVELS"))         (PySem.Value.str (PySem.Str.ofString "_LEVELS") 478) (PySem.Value.ref 220),       PySem.DictEntry.mk (PySem.PyData.keyHash P (PySem.Str.ofString "_SIGNS"))         (PySem.Value.str (PySem.Str.ofString "_SIGNS") 491) (PySem.Value.ref 221),       PySem.DictEntry.mk (PySem.PyData.keyHash P (PySem.Str.ofString "show_reader"))         (PySem.Value.str (PySem.Str.ofString "show_reader") 499) (PySem.Value.ref 228),       PySem.DictEntry.mk (PySem.PyData.keyHash P (PySem.Str.ofString "_show"))         (PySem.Value.str (PySem.Str.ofString "_show") 505) (PySem.Value.ref 233),       PySem.DictEntry.mk (PySem.PyData.keyHash P (PySem.Str.ofString "_law_cell"))         (PySem.Value.str (PySem.Str.ofString "_law_cell") 515) (PySem.Value.ref 240),       PySem.DictEntry.mk (PySem.PyData.keyHash P (PySem.Str.ofString "law"))         (PySem.Value.str (PySem.Str.ofString "law") 526) (PySem.Value.ref 247)]     29)   #[]
noncomputable def o9_12 (P : Params) : Obj := PySem.Obj.mk PySem.Value.none Option.none   (PySem.Data.fields     #[PySem.Value.int 2 0, PySem.Value.int 0 0, PySem.Value.ref 20, PySem.Value.int 4 0, PySem.Value.int 0 0,       PySem.Value.ref 33, PySem.Value.int 11 0, PySem.Value.int 0 0, PySem.Value.ref 50, PySem.Value.int 20 0,       PySem.Value.int 0 0, PySem.Value.ref 59, PySem.Value.int 22 0, PySem.Value.int 0 0, PySem.Value.ref 66,       PySem.Value.int 24 0, PySem.Value.int 0 0, PySem.Value.ref 73, PySem.Value.int 48 0, PySem.Value.int 0 0,       PySem.Value.ref 80, PySem.Value.int 50 0, PySem.Value.int 0 0, PySem.Value.ref 87, PySem.Value.int 189 0,       PySem.Value.int 0 0, PySem.Value.ref 213, PySem.Value.int 196 0, PySem.Value.int 0 0, PySem.Value.ref 218,       PySem.Value.int 211 0, PySem.Value.int 0 0, PySem.Value.ref 227, PySem.Value.int 214 0, PySem.Value.int 0 0,       PySem.Value.ref 232, PySem.Value.int 241 0, PySem.Value.int 0 0, PySem.Value.ref 239, PySem.Value.int 245 0,       PySem.Value.int 0 0, PySem.Value.ref 246])   #[]
noncomputable def o9_222 (P : Params) : Obj := PySem.Obj.mk (PySem.Value.type "tuple") Option.none (PySem.Data.seq #[]) #[]
noncomputable def o9_223 (P : Params) : Obj := PySem.Obj.mk PySem.Value.none Option.none (PySem.Data.fields #[]) #[]
noncomputable def o9_224 (P : Params) : Obj := PySem.Obj.mk (PySem.Value.type "tuple") Option.none (PySem.Data.seq #[PySem.Value.str (PySem.Str.ofString "f") 495]) #[]
noncomputable def o9_225 (P : Params) : Obj := PySem.Obj.mk (PySem.Value.type "tuple") Option.none (PySem.Data.seq #[]) #[]
noncomputable abbrev fa_t19 : Arguments := by
  refine' (fun (k : Arguments) (_ : fnA (st 19) = k) => k) _ ?h
  case h => (conv => lhs; whnf)
noncomputable abbrev fb_t19 : List Stmt := by
  refine' (fun (k : List Stmt) (_ : fnB (st 19) = k) => k) _ ?h
  case h => (conv => lhs; whnf)
noncomputable abbrev fs_t19 : Scope := by
  refine' (fun (k : Scope) (_ : fnS (st 19) = k) => k) _ ?h
  case h => (conv => lhs; whnf)
noncomputable def o9_226 (P : Params) : Obj := PySem.Obj.mk PySem.Value.none Option.none   (PySem.Data.func     (PySem.FuncData.mk (PySem.Str.ofString "show") (PySem.Str.ofString "show") fa_t19 (PySem.FuncBody.stmts fb_t19)       fs_t19 0 [] PySem.Value.none PySem.Value.none PySem.Value.none PySem.Value.none Option.none PySem.Value.none       PySem.Value.none 0))   #[]
noncomputable def o9_227 (P : Params) : Obj := PySem.Obj.mk (PySem.Value.type "code") Option.none   (PySem.Data.fields     #[PySem.Value.str (PySem.Str.ofString "show") 492, PySem.Value.str (PySem.Str.ofString "show") 493,       PySem.Value.str (PySem.Str.ofString "/claim/cut.py") 494, PySem.Value.int 211 0, PySem.Value.int 1 0,       PySem.Value.int 0 0, PySem.Value.int 0 0, PySem.Value.int 3 0, PySem.Value.ref 222, PySem.Value.bool Bool.true,       PySem.Value.int 181 0, PySem.Value.ref 223, PySem.Value.none, PySem.Value.ref 224, PySem.Value.ref 225,       PySem.Value.ref 226, PySem.Value.int 496 0, PySem.Value.int 211 0,       PySem.Value.str (PySem.Str.ofString "/claim/cut.py") 497])   #[]
noncomputable def o9_228 (P : Params) : Obj := PySem.Obj.mk (PySem.Value.type "function") Option.none   (PySem.Data.func     (PySem.FuncData.mk (PySem.Str.ofString "show") (PySem.Str.ofString "show") fa_t19 (PySem.FuncBody.stmts fb_t19)       fs_t19 3 [] PySem.Value.none PySem.Value.none PySem.Value.none       (PySem.Value.str (PySem.Str.ofString "proofkit.reader") 246) Option.none (PySem.Value.ref 227) PySem.Value.none       0))   #[]
noncomputable def o9_229 (P : Params) : Obj := PySem.Obj.mk (PySem.Value.type "tuple") Option.none (PySem.Data.seq #[]) #[]
noncomputable def o9_230 (P : Params) : Obj := PySem.Obj.mk PySem.Value.none Option.none (PySem.Data.fields #[]) #[]
noncomputable abbrev fa_t21 : Arguments := by
  refine' (fun (k : Arguments) (_ : fnA (st 21) = k) => k) _ ?h
  case h => (conv => lhs; whnf)
noncomputable abbrev fb_t21 : List Stmt := by
  refine' (fun (k : List Stmt) (_ : fnB (st 21) = k) => k) _ ?h
  case h => (conv => lhs; whnf)
noncomputable abbrev fs_t21 : Scope := by
  refine' (fun (k : Scope) (_ : fnS (st 21) = k) => k) _ ?h
  case h => (conv => lhs; whnf)
noncomputable def o9_231 (P : Params) : Obj := PySem.Obj.mk PySem.Value.none Option.none   (PySem.Data.func     (PySem.FuncData.mk (PySem.Str.ofString "_show") (PySem.Str.ofString "_show") fa_t21 (PySem.FuncBody.stmts fb_t21)       fs_t21 0 [] PySem.Value.none PySem.Value.none PySem.Value.none PySem.Value.none Option.none PySem.Value.none       PySem.Value.none 0))   #[]
noncomputable def o9_232 (P : Params) : Obj := PySem.Obj.mk (PySem.Value.type "code") Option.none   (PySem.Data.fields     #[PySem.Value.str (PySem.Str.ofString "_show") 500, PySem.Value.str (PySem.Str.ofString "_show") 501,       PySem.Value.str (PySem.Str.ofString "/claim/cut.py") 502, PySem.Value.int 214 0, PySem.Value.int 3 0,       PySem.Value.int 0 0, PySem.Value.int 0 0, PySem.Value.int 3 0, PySem.Value.ref 229, PySem.Value.bool Bool.true,       PySem.Value.int 181 0, PySem.Value.ref 230, PySem.Value.none, PySem.Value.none, PySem.Value.none,       PySem.Value.ref 231, PySem.Value.int 503 0, PySem.Value.int 214 0,       PySem.Value.str (PySem.Str.ofString "/claim/cut.py") 504])   #[]
noncomputable def o9_233 (P : Params) : Obj := PySem.Obj.mk (PySem.Value.type "function") Option.none   (PySem.Data.func     (PySem.FuncData.mk (PySem.Str.ofString "_show") (PySem.Str.ofString "_show") fa_t21 (PySem.FuncBody.stmts fb_t21)       fs_t21 3 [] PySem.Value.none PySem.Value.none PySem.Value.none       (PySem.Value.str (PySem.Str.ofString "proofkit.reader") 246) Option.none (PySem.Value.ref 232) PySem.Value.none       0))   #[]
noncomputable def o9_234 (P : Params) : Obj := PySem.Obj.mk (PySem.Value.type "tuple") Option.none (PySem.Data.seq #[]) #[]
noncomputable def o9_235 (P : Params) : Obj := PySem.Obj.mk PySem.Value.none Option.none (PySem.Data.fields #[]) #[]
noncomputable def o9_236 (P : Params) : Obj := PySem.Obj.mk (PySem.Value.type "tuple") Option.none   (PySem.Data.seq #[PySem.Value.str (PySem.Str.ofString "script") 511, PySem.Value.str (PySem.Str.ofString "k") 512])   #[]
noncomputable def o9_237 (P : Params) : Obj := PySem.Obj.mk (PySem.Value.type "tuple") Option.none (PySem.Data.seq #[]) #[]
noncomputable abbrev fa_t23 : Arguments := by
  refine' (fun (k : Arguments) (_ : fnA (st 23) = k) => k) _ ?h
  case h => (conv => lhs; whnf)
noncomputable abbrev fb_t23 : List Stmt := by
  refine' (fun (k : List Stmt) (_ : fnB (st 23) = k) => k) _ ?h
  case h => (conv => lhs; whnf)
noncomputable abbrev fs_t23 : Scope := by
  refine' (fun (k : Scope) (_ : fnS (st 23) = k) => k) _ ?h
  case h => (conv => lhs; whnf)
noncomputable def o9_238 (P : Params) : Obj := PySem.Obj.mk PySem.Value.none Option.none   (PySem.Data.func     (PySem.FuncData.mk (PySem.Str.ofString "_law_cell") (PySem.Str.ofString "_law_cell") fa_t23       (PySem.FuncBody.stmts fb_t23) fs_t23 0 [] PySem.Value.none PySem.Value.none PySem.Value.none PySem.Value.none       Option.none PySem.Value.none PySem.Value.none 0))   #[]
noncomputable def o9_239 (P : Params) : Obj := PySem.Obj.mk (PySem.Value.type "code") Option.none   (PySem.Data.fields     #[PySem.Value.str (PySem.Str.ofString "_law_cell") 508, PySem.Value.str (PySem.Str.ofString "_law_cell") 509,       PySem.Value.str (PySem.Str.ofString "/claim/cut.py") 510, PySem.Value.int 241 0, PySem.Value.int 2 0,       PySem.Value.int 0 0, PySem.Value.int 0 0, PySem.Value.int 3 0, PySem.Value.ref 234, PySem.Value.bool Bool.true,       PySem.Value.int 181 0, PySem.Value.ref 235, PySem.Value.none, PySem.Value.ref 236, PySem.Value.ref 237,       PySem.Value.ref 238, PySem.Value.int 513 0, PySem.Value.int 241 0,       PySem.Value.str (PySem.Str.ofString "/claim/cut.py") 514])   #[]
noncomputable def o9_240 (P : Params) : Obj := PySem.Obj.mk (PySem.Value.type "function") Option.none   (PySem.Data.func     (PySem.FuncData.mk (PySem.Str.ofString "_law_cell") (PySem.Str.ofString "_law_cell") fa_t23       (PySem.FuncBody.stmts fb_t23) fs_t23 3 [] PySem.Value.none PySem.Value.none PySem.Value.none       (PySem.Value.str (PySem.Str.ofString "law_ui0505_05") 506) Option.none (PySem.Value.ref 239) PySem.Value.none 0))   #[]
noncomputable def o9_241 (P : Params) : Obj := PySem.Obj.mk (PySem.Value.type "tuple") Option.none (PySem.Data.seq #[]) #[]
noncomputable def o9_242 (P : Params) : Obj := PySem.Obj.mk PySem.Value.none Option.none (PySem.Data.fields #[]) #[]
noncomputable def o9_243 (P : Params) : Obj := PySem.Obj.mk (PySem.Value.type "tuple") Option.none   (PySem.Data.seq     #[PySem.Value.str (PySem.Str.ofString "script") 519, PySem.Value.str (PySem.Str.ofString "many") 520,       PySem.Value.str (PySem.Str.ofString "kind") 521, PySem.Value.str (PySem.Str.ofString "text") 522,       PySem.Value.str (PySem.Str.ofString "found") 523])   #[]
noncomputable def o9_244 (P : Params) : Obj := PySem.Obj.mk (PySem.Value.type "tuple") Option.none (PySem.Data.seq #[]) #[]
noncomputable abbrev fa_t24 : Arguments := by
  refine' (fun (k : Arguments) (_ : fnA (st 24) = k) => k) _ ?h
  case h => (conv => lhs; whnf)
noncomputable abbrev fb_t24 : List Stmt := by
  refine' (fun (k : List Stmt) (_ : fnB (st 24) = k) => k) _ ?h
  case h => (conv => lhs; whnf)
noncomputable abbrev fs_t24 : Scope := by
  refine' (fun (k : Scope) (_ : fnS (st 24) = k) => k) _ ?h
  case h => (conv => lhs; whnf)
noncomputable def o9_245 (P : Params) : Obj := PySem.Obj.mk PySem.Value.none Option.none   (PySem.Data.func     (PySem.FuncData.mk (PySem.Str.ofString "law") (PySem.Str.ofString "law") fa_t24 (PySem.FuncBody.stmts fb_t24) fs_t24       0 [] PySem.Value.none PySem.Value.none PySem.Value.none PySem.Value.none Option.none PySem.Value.none       PySem.Value.none 0))   #[]
noncomputable def o9_246 (P : Params) : Obj := PySem.Obj.mk (PySem.Value.type "code") Option.none   (PySem.Data.fields     #[PySem.Value.str (PySem.Str.ofString "law") 516, PySem.Value.str (PySem.Str.ofString "law") 517,       PySem.Value.str (PySem.Str.ofString "/claim/cut.py") 518, PySem.Value.int 245 0, PySem.Value.int 1 0,       PySem.Value.int 0 0, PySem.Value.int 0 0, PySem.Value.int 3 0, PySem.Value.ref 241, PySem.Value.bool Bool.true,       PySem.Value.int 181 0, PySem.Value.ref 242, PySem.Value.none, PySem.Value.ref 243, PySem.Value.ref 244,       PySem.Value.ref 245, PySem.Value.int 524 0, PySem.Value.int 245 0,       PySem.Value.str (PySem.Str.ofString "/claim/cut.py") 525])   #[]
noncomputable def o9_247 (P : Params) : Obj := PySem.Obj.mk (PySem.Value.type "function") Option.none   (PySem.Data.func     (PySem.FuncData.mk (PySem.Str.ofString "law") (PySem.Str.ofString "law") fa_t24 (PySem.FuncBody.stmts fb_t24) fs_t24       3 [] PySem.Value.none PySem.Value.none PySem.Value.none (PySem.Value.str (PySem.Str.ofString "law_ui0505_05") 506)       Option.none (PySem.Value.ref 246) PySem.Value.none 0))   #[]
noncomputable def h9 (P : Params) : Heap := ⟨⟨[PySem.W.boot_o_0 P, PySem.W.boot_o_1 P, PySem.W.boot_o_2 P, o9_3 P, PySem.W.boot_o_4 P, PySem.W.boot_o_5 P, PySem.W.boot_o_6 P, PySem.W.boot_o_7 P, PySem.W.boot_o_8 P, PySem.W.boot_o_9 P, PySem.W.boot_o_10 P, o0_11 P, o9_12 P, o0_13 P, o0_14 P, o2_15 P, o2_16 P, o2_17 P, o2_18 P, o2_19 P, o2_20 P, o2_21 P, o2_22 P, o2_23 P, o3_24 P, o2_25 P, o2_26 P, o2_27 P, o3_28 P, o3_29 P, o3_30 P, o3_31 P, o3_32 P, o3_33 P, o3_34 P, o3_35 P, o3_36 P, o3_37 P, o3_38 P, o3_39 P, o3_40 P, o3_41 P, o3_42 P, o3_43 P, o3_44 P, o3_45 P, o3_46 P, o4_47 P, o4_48 P, o4_49 P, o4_50 P, o4_51 P, o4_52 P, o4_53 P, o4_54 P, o4_55 P, o4_56 P, o4_57 P, o4_58 P, o4_59 P, o4_60 P, o4_61 P, o4_62 P, o4_63 P, o4_64 P, o4_65 P, o4_66 P, o4_67 P, o4_68 P, o4_69 P, o4_70 P, o4_71 P, o4_72 P, o4_73 P, o4_74 P, o4_75 P, o4_76 P, o4_77 P, o4_78 P, o4_79 P, o4_80 P, o4_81 P, o5_82 P, o5_83 P, o5_84 P, o5_85 P, o5_86 P, o5_87 P, o5_88 P, o5_89 P, o5_90 P, o5_91 P, o5_92 P, o5_93 P, o5_94 P, o5_95 P, o5_96 P, o5_97 P, o5_98 P, o5_99 P, o5_100 P, o5_101 P, o5_102 P, o5_103 P, o5_104 P, o5_105 P, o5_106 P, o5_107 P, o5_108 P, o5_109 P, o5_110 P, o5_111 P, o5_112 P, o5_113 P, o5_114 P, o5_115 P, o5_116 P, o5_117 P, o5_118 P, o5_119 P, o5_120 P, o5_121 P, o5_122 P, o5_123 P, o5_124 P, o5_125 P, o5_126 P, o5_127 P, o5_128 P, o5_129 P, o5_130 P, o5_131 P, o5_132 P, o5_133 P, o5_134 P, o5_135 P, o5_136 P, o5_137 P, o5_138 P, o5_139 P, o5_140 P, o5_141 P, o5_142 P, o5_143 P, o5_144 P, o5_145 P, o5_146 P, o5_147 P, o5_148 P, o5_149 P, o5_150 P, o5_151 P, o5_152 P, o5_153 P, o5_154 P, o5_155 P, o5_156 P, o5_157 P, o5_158 P, o5_159 P, o5_160 P, o5_161 P, o5_162 P, o5_163 P, o5_164 P, o5_165 P, o5_166 P, o5_167 P, o5_168 P, o5_169 P, o5_170 P, o5_171 P, o5_172 P, o5_173 P, o5_174 P, o5_175 P, o5_176 P, o5_177 P, o5_178 P, o5_179 P, o5_180 P, o5_181 P, o5_182 P, o5_183 P, o5_184 P, o5_185 P, o5_186 P, o5_187 P, o5_188 P, o5_189 P, o5_190 P, o5_191 P, o5_192 P, o5_193 P, o5_194 P, o5_195 P, o5_196 P, o5_197 P, o5_198 P, o5_199 P, o5_200 P, o5_201 P, o5_202 P, o5_203 P, o5_204 P, o5_205 P, o5_206 P, o5_207 P, o6_208 P, o6_209 P, o6_210 P, o6_211 P, o6_212 P, o6_213 P, o6_214 P, o6_215 P, o6_216 P, o6_217 P, o6_218 P, o6_219 P, o7_220 P, o8_221 P, o9_222 P, o9_223 P, o9_224 P, o9_225 P, o9_226 P, o9_227 P, o9_228 P, o9_229 P, o9_230 P, o9_231 P, o9_232 P, o9_233 P, o9_234 P, o9_235 P, o9_236 P, o9_237 P, o9_238 P, o9_239 P, o9_240 P, o9_241 P, o9_242 P, o9_243 P, o9_244 P, o9_245 P, o9_246 P, o9_247 P]⟩, PySem.Life.mk [] [] [] 0 [] [] Bool.false #[] [] 0 Bool.false Bool.false Bool.false 0 [2000, 10, 10] Bool.false 0   Bool.true [] [] 0 Bool.false⟩
noncomputable abbrev s9 (w : World) (os : OsState) : Shared := ⟨h9 w.params, ⟨[]⟩, PySem.Drawn.mk 0 0 0 0, 527, os⟩
noncomputable abbrev p9 : Pos := PySem.Pos.mk 245 0 258 42
noncomputable def h10 (P : Params) : Heap := ⟨⟨[PySem.W.boot_o_0 P, PySem.W.boot_o_1 P, PySem.W.boot_o_2 P, o9_3 P, PySem.W.boot_o_4 P, PySem.W.boot_o_5 P, PySem.W.boot_o_6 P, PySem.W.boot_o_7 P, PySem.W.boot_o_8 P, PySem.W.boot_o_9 P, PySem.W.boot_o_10 P, o0_11 P, o9_12 P, o0_13 P, o0_14 P, o2_15 P, o2_16 P, o2_17 P, o2_18 P, o2_19 P, o2_20 P, o2_21 P, o2_22 P, o2_23 P, o3_24 P, o2_25 P, o2_26 P, o2_27 P, o3_28 P, o3_29 P, o3_30 P, o3_31 P, o3_32 P, o3_33 P, o3_34 P, o3_35 P, o3_36 P, o3_37 P, o3_38 P, o3_39 P, o3_40 P, o3_41 P, o3_42 P, o3_43 P, o3_44 P, o3_45 P, o3_46 P, o4_47 P, o4_48 P, o4_49 P, o4_50 P, o4_51 P, o4_52 P, o4_53 P, o4_54 P, o4_55 P, o4_56 P, o4_57 P, o4_58 P, o4_59 P, o4_60 P, o4_61 P, o4_62 P, o4_63 P, o4_64 P, o4_65 P, o4_66 P, o4_67 P, o4_68 P, o4_69 P, o4_70 P, o4_71 P, o4_72 P, o4_73 P, o4_74 P, o4_75 P, o4_76 P, o4_77 P, o4_78 P, o4_79 P, o4_80 P, o4_81 P, o5_82 P, o5_83 P, o5_84 P, o5_85 P, o5_86 P, o5_87 P, o5_88 P, o5_89 P, o5_90 P, o5_91 P, o5_92 P, o5_93 P, o5_94 P, o5_95 P, o5_96 P, o5_97 P, o5_98 P, o5_99 P, o5_100 P, o5_101 P, o5_102 P, o5_103 P, o5_104 P, o5_105 P, o5_106 P, o5_107 P, o5_108 P, o5_109 P, o5_110 P, o5_111 P, o5_112 P, o5_113 P, o5_114 P, o5_115 P, o5_116 P, o5_117 P, o5_118 P, o5_119 P, o5_120 P, o5_121 P, o5_122 P, o5_123 P, o5_124 P, o5_125 P, o5_126 P, o5_127 P, o5_128 P, o5_129 P, o5_130 P, o5_131 P, o5_132 P, o5_133 P, o5_134 P, o5_135 P, o5_136 P, o5_137 P, o5_138 P, o5_139 P, o5_140 P, o5_141 P, o5_142 P, o5_143 P, o5_144 P, o5_145 P, o5_146 P, o5_147 P, o5_148 P, o5_149 P, o5_150 P, o5_151 P, o5_152 P, o5_153 P, o5_154 P, o5_155 P, o5_156 P, o5_157 P, o5_158 P, o5_159 P, o5_160 P, o5_161 P, o5_162 P, o5_163 P, o5_164 P, o5_165 P, o5_166 P, o5_167 P, o5_168 P, o5_169 P, o5_170 P, o5_171 P, o5_172 P, o5_173 P, o5_174 P, o5_175 P, o5_176 P, o5_177 P, o5_178 P, o5_179 P, o5_180 P, o5_181 P, o5_182 P, o5_183 P, o5_184 P, o5_185 P, o5_186 P, o5_187 P, o5_188 P, o5_189 P, o5_190 P, o5_191 P, o5_192 P, o5_193 P, o5_194 P, o5_195 P, o5_196 P, o5_197 P, o5_198 P, o5_199 P, o5_200 P, o5_201 P, o5_202 P, o5_203 P, o5_204 P, o5_205 P, o5_206 P, o5_207 P, o6_208 P, o6_209 P, o6_210 P, o6_211 P, o6_212 P, o6_213 P, o6_214 P, o6_215 P, o6_216 P, o6_217 P, o6_218 P, o6_219 P, o7_220 P, o8_221 P, o9_222 P, o9_223 P, o9_224 P, o9_225 P, o9_226 P, o9_227 P, o9_228 P, o9_229 P, o9_230 P, o9_231 P, o9_232 P, o9_233 P, o9_234 P, o9_235 P, o9_236 P, o9_237 P, o9_238 P, o9_239 P, o9_240 P, o9_241 P, o9_242 P, o9_243 P, o9_244 P, o9_245 P, o9_246 P, o9_247 P]⟩, PySem.Life.mk [] [] [] 0 [] [] Bool.false #[] [] 0 Bool.false Bool.false Bool.false 0 [2000, 10, 10] Bool.false 0   Bool.true [] [] 0 Bool.false⟩
noncomputable abbrev s10 (w : World) (os : OsState) : Shared := ⟨h10 w.params, ⟨[]⟩, PySem.Drawn.mk 0 0 0 0, 527, os⟩
noncomputable abbrev p10 : Pos := PySem.Pos.mk 245 0 258 42
noncomputable def K05 : Params → Frag := fun P => (nat_lit 2, PySem.W.boot_o_2 P) :: (nat_lit 3, o9_3 P) :: (nat_lit 23, o2_23 P) :: (nat_lit 24, o3_24 P) :: (nat_lit 40, o3_40 P) :: (nat_lit 41, o3_41 P) :: (nat_lit 43, o3_43 P) :: (nat_lit 44, o3_44 P) :: (nat_lit 52, o4_52 P) :: (nat_lit 53, o4_53 P) :: (nat_lit 59, o4_59 P) :: (nat_lit 60, o4_60 P) :: (nat_lit 66, o4_66 P) :: (nat_lit 67, o4_67 P) :: (nat_lit 73, o4_73 P) :: (nat_lit 74, o4_74 P) :: (nat_lit 94, o5_94 P) :: (nat_lit 95, o5_95 P) :: (nat_lit 101, o5_101 P) :: (nat_lit 102, o5_102 P) :: (nat_lit 108, o5_108 P) :: (nat_lit 109, o5_109 P) :: (nat_lit 115, o5_115 P) :: (nat_lit 116, o5_116 P) :: (nat_lit 129, o5_129 P) :: (nat_lit 130, o5_130 P) :: (nat_lit 143, o5_143 P) :: (nat_lit 144, o5_144 P) :: (nat_lit 150, o5_150 P) :: (nat_lit 151, o5_151 P) :: (nat_lit 157, o5_157 P) :: (nat_lit 158, o5_158 P) :: (nat_lit 164, o5_164 P) :: (nat_lit 165, o5_165 P) :: (nat_lit 171, o5_171 P) :: (nat_lit 172, o5_172 P) :: (nat_lit 185, o5_185 P) :: (nat_lit 186, o5_186 P) :: (nat_lit 199, o5_199 P) :: (nat_lit 200, o5_200 P) :: (nat_lit 202, o5_202 P) :: (nat_lit 203, o5_203 P) :: (nat_lit 213, o6_213 P) :: (nat_lit 214, o6_214 P) :: (nat_lit 218, o6_218 P) :: (nat_lit 219, o6_219 P) :: (nat_lit 220, o7_220 P) :: (nat_lit 221, o8_221 P) :: (nat_lit 227, o9_227 P) :: (nat_lit 228, o9_228 P) :: (nat_lit 232, o9_232 P) :: (nat_lit 233, o9_233 P) :: (nat_lit 239, o9_239 P) :: (nat_lit 240, o9_240 P) :: (nat_lit 246, o9_246 P) :: (nat_lit 247, o9_247 P) :: []
noncomputable abbrev bdy : List Stmt := behindTheImports prg
noncomputable abbrev env0 : Env := { scope := prg.main.scope, locals := mainNs, globals := mainNs, cells := [], code := .ref 13, frame := some 14 }
noncomputable abbrev cd0 : Code := .body bdy env0
noncomputable abbrev an0 : Option Value := some (.ref 6)
noncomputable abbrev B0 : List Frame := [topFrame ⟨0, 0, 0, 0⟩]
noncomputable abbrev b0 (w : World) (os : OsState) : Shared := ⟨boot_heap w.params, ⟨[]⟩, boot_drawn, boot_toks, os⟩
noncomputable def g2 : List Stmt := (bdy.drop 0).take 2
noncomputable def g3 : List Stmt := (bdy.drop 2).take 1
noncomputable def g4 : List Stmt := (bdy.drop 3).take 11
noncomputable def g5 : List Stmt := (bdy.drop 14).take 1
noncomputable def g6 : List Stmt := (bdy.drop 15).take 2
noncomputable def g7 : List Stmt := (bdy.drop 17).take 1
noncomputable def g8 : List Stmt := (bdy.drop 18).take 1
noncomputable def g9 : List Stmt := (bdy.drop 19).take 6
noncomputable abbrev r10 : List Stmt := []
noncomputable abbrev r9 : List Stmt := g9 ++ r10
noncomputable abbrev r8 : List Stmt := g8 ++ r9
noncomputable abbrev r7 : List Stmt := g7 ++ r8
noncomputable abbrev r6 : List Stmt := g6 ++ r7
noncomputable abbrev r5 : List Stmt := g5 ++ r6
noncomputable abbrev r4 : List Stmt := g4 ++ r5
noncomputable abbrev r3 : List Stmt := g3 ++ r4
noncomputable abbrev r2 : List Stmt := g2 ++ r3
theorem l_pre : ∀ (w : World) (os : OsState), topGo treeTable prg w 11 an0 12 (b0 w os) (topStub prg) = some (s0 w os, ⟨denote treeTable cd0, cd0, p0, B0⟩) := fun w os => by kernel_rfl
theorem l_blk : ∀ (w : World) (os : OsState), segRun treeTable prg w 11 an0 1 1 (s0 w os) (blockOf bdy env0 cd0 p0 B0) = some (.next, s1 w os, cd0, p1) := fun w os => by kernel_rfl
theorem l_2 : ∀ (w : World) (os : OsState), segRun treeTable prg w 11 an0 1 196 (s1 w os) (piecesOf g2 env0 cd0 p1 B0) = some (.next, s2 w os, cd0, p2) := fun w os => by kernel_rfl
theorem l_3 : ∀ (w : World) (os : OsState), segRun treeTable prg w 11 an0 1 248 (s2 w os) (piecesOf g3 env0 cd0 p2 B0) = some (.next, s3 w os, cd0, p3) := fun w os => by kernel_rfl
theorem l_4 : ∀ (w : World) (os : OsState), segRun treeTable prg w 11 an0 1 217 (s3 w os) (piecesOf g4 env0 cd0 p3 B0) = some (.next, s4 w os, cd0, p4) := fun w os => by kernel_rfl
theorem l_5 : ∀ (w : World) (os : OsState), segRun treeTable prg w 11 an0 1 711 (s4 w os) (piecesOf g5 env0 cd0 p4 B0) = some (.next, s5 w os, cd0, p5) := fun w os => by kernel_rfl
theorem l_6 : ∀ (w : World) (os : OsState), segRun treeTable prg w 11 an0 1 58 (s5 w os) (piecesOf g6 env0 cd0 p5 B0) = some (.next, s6 w os, cd0, p6) := fun w os => by kernel_rfl
theorem l_7 : ∀ (w : World) (os : OsState), segRun treeTable prg w 11 an0 1 71 (s6 w os) (piecesOf g7 env0 cd0 p6 B0) = some (.next, s7 w os, cd0, p7) :=
  byRow2 "special-get-raises" (P := fun w => ∀ (os : OsState), segRun treeTable prg w 11 an0 1 71 (s6 w os) (piecesOf g7 env0 cd0 p6 B0) = some (.next, s7 w os, cd0, p7)) (fun w os => by kernel_rfl) (fun w os => by kernel_rfl)
theorem l_8 : ∀ (w : World) (os : OsState), segRun treeTable prg w 11 an0 1 71 (s7 w os) (piecesOf g8 env0 cd0 p7 B0) = some (.next, s8 w os, cd0, p8) :=
  byRow2 "special-get-raises" (P := fun w => ∀ (os : OsState), segRun treeTable prg w 11 an0 1 71 (s7 w os) (piecesOf g8 env0 cd0 p7 B0) = some (.next, s8 w os, cd0, p8)) (fun w os => by kernel_rfl) (fun w os => by kernel_rfl)
theorem l_9 : ∀ (w : World) (os : OsState), segRun treeTable prg w 11 an0 1 138 (s8 w os) (piecesOf g9 env0 cd0 p8 B0) = some (.next, s9 w os, cd0, p9) := fun w os => by kernel_rfl
theorem l_fin : ∀ (w : World) (os : OsState), topRun treeTable prg w 11 an0 2 (s9 w os) (restOf r10 env0 cd0 p9 B0) = some (s10 w os) := fun w os => by kernel_rfl
theorem q_9 (w : World) (os : OsState) : topRun treeTable prg w 11 an0 (138 + (2)) (s8 w os) (restOf r9 env0 cd0 p8 B0) = some (s10 w os) := piece_app (l_9 w os) (l_fin w os)
theorem q_8 (w : World) (os : OsState) : topRun treeTable prg w 11 an0 (71 + (138 + (2))) (s7 w os) (restOf r8 env0 cd0 p7 B0) = some (s10 w os) := piece_app (l_8 w os) (q_9 w os)
theorem q_7 (w : World) (os : OsState) : topRun treeTable prg w 11 an0 (71 + (71 + (138 + (2)))) (s6 w os) (restOf r7 env0 cd0 p6 B0) = some (s10 w os) := piece_app (l_7 w os) (q_8 w os)
theorem q_6 (w : World) (os : OsState) : topRun treeTable prg w 11 an0 (58 + (71 + (71 + (138 + (2))))) (s5 w os) (restOf r6 env0 cd0 p5 B0) = some (s10 w os) := piece_app (l_6 w os) (q_7 w os)
theorem q_5 (w : World) (os : OsState) : topRun treeTable prg w 11 an0 (711 + (58 + (71 + (71 + (138 + (2)))))) (s4 w os) (restOf r5 env0 cd0 p4 B0) = some (s10 w os) := piece_app (l_5 w os) (q_6 w os)
theorem q_4 (w : World) (os : OsState) : topRun treeTable prg w 11 an0 (217 + (711 + (58 + (71 + (71 + (138 + (2))))))) (s3 w os) (restOf r4 env0 cd0 p3 B0) = some (s10 w os) := piece_app (l_4 w os) (q_5 w os)
theorem q_3 (w : World) (os : OsState) : topRun treeTable prg w 11 an0 (248 + (217 + (711 + (58 + (71 + (71 + (138 + (2)))))))) (s2 w os) (restOf r3 env0 cd0 p2 B0) = some (s10 w os) := piece_app (l_3 w os) (q_4 w os)
theorem q_2 (w : World) (os : OsState) : topRun treeTable prg w 11 an0 (196 + (248 + (217 + (711 + (58 + (71 + (71 + (138 + (2))))))))) (s1 w os) (restOf r2 env0 cd0 p1 B0) = some (s10 w os) := piece_app (l_2 w os) (q_3 w os)
theorem bdy_eq : bdy = r2 := by kernel_rfl
theorem q_b (w : World) (os : OsState) : topRun treeTable prg w 11 an0 (196 + (248 + (217 + (711 + (58 + (71 + (71 + (138 + (2))))))))) (s1 w os) (restOf bdy env0 cd0 p1 B0) = some (s10 w os) := by
  have h := q_2 w os
  rw [← bdy_eq] at h
  exact h
theorem q_1 (w : World) (os : OsState) : topRun treeTable prg w 11 an0 (1 + (196 + (248 + (217 + (711 + (58 + (71 + (71 + (138 + (2)))))))))) (s0 w os) ⟨denote treeTable cd0, cd0, p0, B0⟩ = some (s10 w os) := piece_block (l_blk w os) (q_b w os)
theorem q_0 (w : World) (os : OsState) : topRun treeTable prg w 11 an0 (12 + (1 + (196 + (248 + (217 + (711 + (58 + (71 + (71 + (138 + (2))))))))))) (b0 w os) (topStub prg) = some (s10 w os) := go_top (l_pre w os) (q_1 w os)
noncomputable abbrev asK : List Addr := [2, 3, 23, 24, 40, 41, 43, 44, 52, 53, 59, 60, 66, 67, 73, 74, 94, 95, 101, 102, 108, 109, 115, 116, 129, 130, 143, 144, 150, 151, 157, 158, 164, 165, 171, 172, 185, 186, 199, 200, 202, 203, 213, 214, 218, 219, 220, 221, 227, 228, 232, 233, 239, 240, 246, 247]
theorem asK_eq (P : Params) : asK = (K05 P).map (·.1) := by kernel_rfl
noncomputable abbrev vw : Program := { prg with main := { prg.main with body := ([1, 2, 5, 6, 8, 9, 10, 11, 12, 13, 14, 15, 16, 17, 18, 19, 20, 21, 23, 24] : List Nat).filterMap fun i => prg.main.body[i]? } }
noncomputable abbrev hkK : Hook := kHook K05 asK asK_eq
theorem l_size : ∀ w : World, ((boot_heap w.params).isNs mainGlobals && (⟨[]⟩ : Array GenState).size == 0, (boot_heap w.params).objs.size, (boot_heap w.params).nsMap mainGlobals (Str.ofString "__annotations__")) = (true, 11, an0) := fun w => by kernel_rfl
theorem l_looks : ∀ w : World, (fun os => (staticsOk (importedModules prg.main.body) (boot_heap w.params) (h10 w.params) && namesBound prg (h10 w.params) && gensDone (s10 w os) && laidKept (boot_heap w.params) (h10 w.params), openSeen vw [Str.ofString "show_terms", Str.ofString "SIGNS", Str.ofString "_LEVELS", Str.ofString "_SIGNS", Str.ofString "show_reader"] (importedModules prg.main.body) (fun s => xlAt vw [] s && recOk [] s) true (s10 w os), Hook.obs hkK (s10 w os))) = fun (_ : OsState) => (true, openGood vw [Str.ofString "show_terms", Str.ofString "SIGNS", Str.ofString "_LEVELS", Str.ofString "_SIGNS", Str.ofString "show_reader"], Hook.val hkK w) := fun w => by kernel_rfl
theorem left : LeftO prg vw [Str.ofString "show_terms", Str.ofString "SIGNS", Str.ofString "_LEVELS", Str.ofString "_SIGNS", Str.ofString "show_reader"] (fun s => xlAt vw [] s && recOk [] s) (Hook.obs hkK) (Hook.val hkK) 3530 := LeftO.of_pieces (boot_open (by kernel_rfl) (by kernel_rfl) (fun _ => by kernel_rfl)) l_size q_0 (by kernel_rfl) l_looks
theorem a1 : defOf vw PySem.Challenge.rw_ui0505_05.row.name = some (⟨Str.ofString "law", fa_t24, fb_t24, fs_t24, ⟨245, 0, 258, 42⟩⟩, []) := by kernel_rfl
theorem a2 : PySem.Challenge.rw_ui0505_05.row.prog.theDef PySem.Challenge.rw_ui0505_05.row.name = some (fa_t24, fb_t24, fs_t24) := by kernel_rfl
theorem a6 : (chainsOk vw && opensWell PySem.Challenge.rw_ui0505_05.row.prog && (frees PySem.Challenge.rw_ui0505_05.row.toRowW && PySem.Challenge.rw_ui0505_05.row.within.isEmpty)) = true := by kernel_rfl
theorem a7 : PySem.Challenge.rw_ui0505_05.row.prog.bare := ⟨rfl, rfl, rfl, rfl, rfl, by decide +kernel⟩
theorem hd05 (hc : WalkO vw [Str.ofString "show_terms", Str.ofString "SIGNS", Str.ofString "_LEVELS", Str.ofString "_SIGNS", Str.ofString "show_reader"] (XL vw []) (Hook.says (kHook K05 asK asK_eq)) PySem.Challenge.rw_ui0505_05.row.toRowW ⟨Str.ofString "law", fa_t24, fb_t24, fs_t24, ⟨245, 0, 258, 42⟩⟩ [] fun f vs => PySem.call f vs) : PySem.Challenge.rw_ui0505_05.Holds := by
  w_on
  o_law
  refine holds_open (d := ⟨Str.ofString "law", fa_t24, fb_t24, fs_t24, ⟨245, 0, 258, 42⟩⟩) (kwd := []) (q := vw) (loose := [Str.ofString "show_terms", Str.ofString "SIGNS", Str.ofString "_LEVELS", Str.ofString "_SIGNS", Str.ofString "show_reader"]) (Xt := fun s => xlAt vw [] s && recOk [] s) (XP := XL vw []) (Yf := Hook.obs hkK) (Ya := Hook.val hkK) (YP := Hook.says hkK) (N := 3530) left (Hook.of hkK) (Hook.keeps hkK) (fun s e => xl_of s (Bool.and_eq_true_iff.mp e).1) XL.keeps a1 a2 rfl (fun s e => recFacts_of (Bool.and_eq_true_iff.mp e).2) rfl (by assumption) a6 a7 ?hw hc
  case hw => w_witness2
end
end Mine
end
section
open PySem PySem.W PyProof.Rows PyProof.V PySem.Spec
namespace Mine
local macro_rules | `(tactic| k_mem) => `(tactic| first | exact List.mem_cons_self | with_reducible assumption | (refine List.mem_cons_of_mem _ ?_; k_mem))
local macro_rules | `(tactic| k_all) => `(tactic| first | exact List.forall_mem_nil _ | with_reducible assumption | exact allLt_ne (by with_reducible assumption) | (refine' List.forall_mem_cons.mpr ⟨?a, ?b⟩; (case a => k_ne); (case b => k_all)))
local macro_rules | `(tactic| k_lt $h:ident) => `(tactic| (replace $h := allLt_of $h; (try simp only [AllLt, and_true] at $h:ident); repeat (with_reducible (rename _ ∧ _ => hh9); obtain ⟨_, _⟩ := hh9)))
local macro_rules | `(tactic| walk_at "enter") => `(tactic| (refine' code_def ?k1 ?k2 ?k3 ?k4 ?k5 ?kA ?kF ?kK ?k6 ?k7 ?k8 ?k9 ?kB ?_ ?c2 ?c3 ?c4 ?c5; (case kA => exact rfl); (case kF => exact rfl); (case kK => first | exact rfl | assumption); (case k2 => k_asm); (case k1 => k_asm); (case k3 => k_asm); (case k4 => k_asm); (case k5 => k_asm); (case k6 => k_is); (case k7 => k_is); (case k8 => ktr_room); (case k9 => first | exact BindsTo.of_eq rfl | exact binds_K (by k_in) rfl (by k_is) rfl rfl rfl); (case c5 => decide); (case kB => exact locs rfl); (case c2 => exact rfl); (case c3 => exact rfl); (case c4 => exact rfl); k_whole; intro g' L' h' FG' F' N' B' X' T'; (try dsimp only); (try k_fold)))
local macro_rules | `(tactic| walk_at $s:str) => `(tactic| k_extra $s)
theorem peek_ok (w : World) (p : Program) (loose : List Str) (mean : ExcName → Option Value) (mg mb : Str → Option Value) :
    ∀ (dp un : Nat) (gd : Option (List Code)) (cn : Str) (cs : Scope) (a : Addr) (ccd : Value) (cl : List (Str × Addr)) (outer : List Env) (A₀ : Around) (base h₀ : Heap) (L : Addr) (m : Str → Option Value) (news : List (Addr × Obj)) (s : Shared) (rd dd tl : Addr) (r : RT) (nt : Nat) (vs : List Value) (ws : List (Str × Int)) (i : Nat) (dq : Int) (x : Str) (Q E : Value → Shared → Prop),
      Below A₀ base outer h₀ → Fr h₀ L s.heap m → (K05 w.params).In h₀ → News h₀ L s.heap news → Top p loose mean mg mb h₀ → cs.kind = .function → dp + 20 < recursionLimit → un + 160 < cLine →
      RS 203 w news rd dd tl r nt vs ws i dq → wordAt ws i = x → i ≤ 1000 →
      (∀ h' tk' u, Fr h₀ L h' m → News h₀ L h' news → Q (.str x u) { s with heap := h', toks := tk' }) →
      wpAny (model PySem.Challenge.rw_ui0505_05.row.prog w) (ktrTop dp un gd cn cs L a ccd cl outer) (call (.ref 102) [.ref rd]) Q E s := by
  k_fill
  k_with_none
  k_with "steps" => repeat' (first | (k_unfold; (try dsimp only)) | walk1 | (dsimp only; walk1) | (leave1; walk_say "STEP leave1"; try dsimp only) | k_extra "mine")
  k_with "spliced" => first | refine args_cons ?_ | refine args_nil ⟨Fr.keep (by assumption) _ _ (by assumption), ?_⟩ | (refine args_nil ?_; try simp only [List.cons_append, List.nil_append])
  k_with "call builtin:len cons nil" => (k_here; (with_reducible show wpAny _ _ (call (Value.builtin "len") [Value.ref _]) _ _ _); k_dflt (refine' lenL (by k_asm) (by k_mem) (by first | (with_reducible assumption) | (simp only [List.length_append, List.length_map, List.length_cons, List.length_nil]; with_reducible rfl)) (by omega) ?_))
  k_with "call ref cons nil" => (k_here; k_dflt (refine' call_cls (by k_asm) (by k_asm) (by k_asm) (by k_is) (by k_is) (by k_is) ?_; k_whole; intro x' d' h' F' N' l1 l2; (try k_lt l1); (try k_lt2 l2); (try k_sweep); walk_at "enter"))
  k_with "call builtin:list.append cons nil" => (k_here; (with_reducible show wpAny _ _ (call (Value.builtin "list.append") [Value.ref _, _]) _ _ _); k_dflt (refine' appendL (by k_asm) (by k_asm) (by k_upd) (by ((try simp only [List.length_append, List.length_map, List.length_cons, List.length_nil]); omega)) ?_; k_whole); intro h' F' N'; (try k_sweep))
  k_with "subscriptTail Attribute Name Attribute ref int" => (k_here; (with_reducible show wpAny _ _ (subscriptTail _ _ (Value.ref _) (Value.int _ _)) _ _ _); k_dflt (refine' itemL (by k_asm) (by with_reducible assumption) (by k_mem) (by with_reducible rfl) (by omega) ?_ (by with_unfolding_all rfl); k_whole))
  k_with "subscriptTail Subscript Attribute Attribute Constant ref int" => (k_here; (with_reducible show wpAny _ _ (subscriptTail _ _ (Value.ref _) (Value.int _ _)) _ _ _); k_dflt (refine' itemT (by k_asm) (by k_mem) (by decide) (by decide) (by rfl) (by rfl) ?_ (by with_unfolding_all rfl) (by intro _; with_unfolding_all rfl)))
  k_with "WhlIf" => first | (with_reducible refine WhlIf.no (by with_reducible assumption) ?_) | (with_reducible refine WhlIf.yes (by with_reducible assumption) ?_)
  k_with "exec While Compare cons nil" => (k_here; (with_reducible refine whl_start 100 ?_))
  intro dp un gd cn cs a ccd cl outer A₀ base h₀ L m news s rd dd tl r nt vs ws i dq x Q E B F X N T hk hd hu hS hx hi hret
  obtain ⟨hrd, ⟨ua, ud, hdd⟩, hT⟩ := hS
  have htl := hT.htl
  have hlen := hT.hlen
  have hle := hT.hle
  by_cases hlt : i < ws.length
  · have hw : ws[i]? = some ws[i] := by simp [hlt]
    obtain ⟨at1, t1, u1, n1, hv, hm⟩ := hT.htk i _ hw
    have hxx : ws[i].1 = x := by rw [← hx, wordAt, hw]
    rw [hxx] at hm
    have hcmp : ((i : Int) < ((ws.length : Nat) : Int)) := by omega
    refine wpAny_call ?_
    k_dflt (walk_at "enter")
    k_extra "steps"
    rename Fr h₀ L _ _ => F9
    rename News h₀ L _ _ => N9
    exact hret _ _ _ F9 N9
  · have hw : ws[i]? = none := List.getElem?_eq_none (by omega)
    have hxx : Str.ofString "" = x := by rw [← hx, wordAt, hw]
    subst hxx
    have hcmp : ¬ ((i : Int) < ((ws.length : Nat) : Int)) := by omega
    refine wpAny_call ?_
    k_dflt (walk_at "enter")
    k_extra "steps"
    rename Fr h₀ L _ _ => F9
    rename News h₀ L _ _ => N9
    exact hret _ _ _ F9 N9
theorem take_ok (w : World) (p : Program) (loose : List Str) (mean : ExcName → Option Value) (mg mb : Str → Option Value) :
    ∀ (dp un : Nat) (gd : Option (List Code)) (cn : Str) (cs : Scope) (a : Addr) (ccd : Value) (cl : List (Str × Addr)) (outer : List Env) (A₀ : Around) (base h₀ : Heap) (L : Addr) (m : Str → Option Value) (news : List (Addr × Obj)) (s : Shared) (rd dd tl : Addr) (r : RT) (nt : Nat) (vs : List Value) (ws : List (Str × Int)) (i : Nat) (dq : Int) (x : Str) (Q E : Value → Shared → Prop),
      Below A₀ base outer h₀ → Fr h₀ L s.heap m → (K05 w.params).In h₀ → News h₀ L s.heap news → Top p loose mean mg mb h₀ → cs.kind = .function → dp + 40 < recursionLimit → un + 320 < cLine →
      RS 203 w news rd dd tl r nt vs ws i dq → wordAt ws i = x → i ≤ 900 →
      (∀ h' tk' u news', Fr h₀ L h' m → News h₀ L h' news' → Kept dd news news' → RS 203 w news' rd dd tl r nt vs ws (i + 1) dq → Q (.str x u) { s with heap := h', toks := tk' }) →
      wpAny (model PySem.Challenge.rw_ui0505_05.row.prog w) (ktrTop dp un gd cn cs L a ccd cl outer) (call (.ref 116) [.ref rd]) Q E s := by
  k_fill
  k_with_none
  k_with "steps" => repeat' (first | (k_unfold; (try dsimp only)) | walk1 | (dsimp only; walk1) | (leave1; walk_say "STEP leave1"; try dsimp only) | k_extra "mine")
  k_with "spliced" => first | refine args_cons ?_ | refine args_nil ⟨Fr.keep (by assumption) _ _ (by assumption), ?_⟩ | (refine args_nil ?_; try simp only [List.cons_append, List.nil_append])
  k_with "call builtin:len cons nil" => (k_here; (with_reducible show wpAny _ _ (call (Value.builtin "len") [Value.ref _]) _ _ _); k_dflt (refine' lenL (by k_asm) (by k_mem) (by first | (with_reducible assumption) | (simp only [List.length_append, List.length_map, List.length_cons, List.length_nil]; with_reducible rfl)) (by omega) ?_))
  k_with "call ref cons nil" => (k_here; k_dflt (refine' call_cls (by k_asm) (by k_asm) (by k_asm) (by k_is) (by k_is) (by k_is) ?_; k_whole; intro x' d' h' F' N' l1 l2; (try k_lt l1); (try k_lt2 l2); (try k_sweep); walk_at "enter"))
  k_with "call builtin:list.append cons nil" => (k_here; (with_reducible show wpAny _ _ (call (Value.builtin "list.append") [Value.ref _, _]) _ _ _); k_dflt (refine' appendL (by k_asm) (by k_asm) (by k_upd) (by ((try simp only [List.length_append, List.length_map, List.length_cons, List.length_nil]); omega)) ?_; k_whole); intro h' F' N'; (try k_sweep))
  k_with "subscriptTail Attribute Name Attribute ref int" => (k_here; (with_reducible show wpAny _ _ (subscriptTail _ _ (Value.ref _) (Value.int _ _)) _ _ _); k_dflt (refine' itemL (by k_asm) (by with_reducible assumption) (by k_mem) (by with_reducible rfl) (by omega) ?_ (by with_unfolding_all rfl); k_whole))
  k_with "subscriptTail Subscript Attribute Attribute Constant ref int" => (k_here; (with_reducible show wpAny _ _ (subscriptTail _ _ (Value.ref _) (Value.int _ _)) _ _ _); k_dflt (refine' itemT (by k_asm) (by k_mem) (by decide) (by decide) (by rfl) (by rfl) ?_ (by with_unfolding_all rfl) (by intro _; with_unfolding_all rfl)))
  k_with "WhlIf" => first | (with_reducible refine WhlIf.no (by with_reducible assumption) ?_) | (with_reducible refine WhlIf.yes (by with_reducible assumption) ?_)
  k_with "exec While Compare cons nil" => (k_here; (with_reducible refine whl_start 100 ?_))
  k_with "call ref nil" => (k_here; (with_reducible show wpAny _ _ (call (Value.ref 102) _) _ _ _); k_dflt (refine' peek_ok _ _ _ _ _ _ _ _ _ _ _ _ _ _ _ _ _ _ _ _ _ _ _ _ _ _ _ _ _ _ _ _ _ _ (by k_asm) (by k_asm) (by k_asm) (by k_asm) (by k_asm) (by first | rfl | assumption) (by first | decide | omega | ktr_room) (by first | decide | omega | ktr_units) (by exact ⟨by k_mem, ⟨_, _, by k_mem⟩, TK.mono (by assumption) (fun q hq => by repeat (first | exact hq | refine List.mem_cons_of_mem _ ?_))⟩) (by first | assumption | rfl) (by omega) ?_; intro h' tk' u' F' N'; (try k_sweep); (try dsimp only)))
  intro dp un gd cn cs a ccd cl outer A₀ base h₀ L m news s rd dd tl r nt vs ws i dq x Q E B F X N T hk hd hu hS hx hi hret
  have hS0 := hS
  obtain ⟨hrd, ⟨ua, ud, hdd⟩, hT⟩ := hS
  have N1 := RS.front N hdd
  have hT1 := hT.off N hdd rfl
  have nr : @Ne Nat rd dd := nne Obj.cls N hrd hdd (fun e => by cases e)
  have hr1 : (rd, instObj 203 dd) ∈ off dd news := mem_off.mpr ⟨hrd, nr⟩
  have ad : ∀ q ∈ off dd news, q.1 ≠ dd := off_ne
  have hN := N
  have hk1 : Kept dd news (off dd news) := fun q hq hne => mem_off.mpr ⟨hq, hne⟩
  generalize off dd news = rest at N1 hT1 hr1 ad hk1
  clear N hrd hdd hT
  refine wpAny_call ?_
  k_dflt (walk_at "enter")
  k_extra "steps"
  rename Fr h₀ L _ _ => F9
  rename News h₀ L _ _ => N9
  have K9 : ∀ o, Kept dd news ((dd, o) :: rest) := fun o => hk1.trans (Kept.sub fun q hq => List.mem_cons_of_mem _ hq)
  exact hret _ _ _ _ F9 N9 (K9 _) (hS0.keep hN (K9 _) List.mem_cons_self)
theorem place_ok (w : World) (p : Program) (loose : List Str) (mean : ExcName → Option Value) (mg mb : Str → Option Value) :
    ∀ (dp un : Nat) (gd : Option (List Code)) (cn : Str) (cs : Scope) (a : Addr) (ccd : Value) (cl : List (Str × Addr)) (outer : List Env) (A₀ : Around) (base h₀ : Heap) (L : Addr) (m : Str → Option Value) (news : List (Addr × Obj)) (s : Shared) (rd dd tl : Addr) (r : RT) (nt : Nat) (vs : List Value) (ws : List (Str × Int)) (i : Nat) (dq : Int) (Q E : Value → Shared → Prop),
      Below A₀ base outer h₀ → Fr h₀ L s.heap m → (K05 w.params).In h₀ → News h₀ L s.heap news → Top p loose mean mg mb h₀ → cs.kind = .function → dp + 20 < recursionLimit → un + 160 < cLine →
      RS 203 w news rd dd tl r nt vs ws i dq → i ≤ 1000 → (∀ y ∈ ws, 0 ≤ y.2 ∧ y.2 ≤ 1000) → 0 ≤ r.en → r.en ≤ 1000 →
      (∀ h' tk' k u, Fr h₀ L h' m → News h₀ L h' news → 0 ≤ k → k ≤ 1000 → Q (.int k u) { s with heap := h', toks := tk' }) →
      wpAny (model PySem.Challenge.rw_ui0505_05.row.prog w) (ktrTop dp un gd cn cs L a ccd cl outer) (call (.ref 109) [.ref rd]) Q E s := by
  k_fill
  k_with_none
  k_with "steps" => repeat' (first | (k_unfold; (try dsimp only)) | walk1 | (dsimp only; walk1) | (leave1; walk_say "STEP leave1"; try dsimp only) | k_extra "mine")
  k_with "spliced" => first | refine args_cons ?_ | refine args_nil ⟨Fr.keep (by assumption) _ _ (by assumption), ?_⟩ | (refine args_nil ?_; try simp only [List.cons_append, List.nil_append])
  k_with "call builtin:len cons nil" => (k_here; (with_reducible show wpAny _ _ (call (Value.builtin "len") [Value.ref _]) _ _ _); k_dflt (refine' lenL (by k_asm) (by k_mem) (by first | (with_reducible assumption) | (simp only [List.length_append, List.length_map, List.length_cons, List.length_nil]; with_reducible rfl)) (by omega) ?_))
  k_with "call ref cons nil" => (k_here; k_dflt (refine' call_cls (by k_asm) (by k_asm) (by k_asm) (by k_is) (by k_is) (by k_is) ?_; k_whole; intro x' d' h' F' N' l1 l2; (try k_lt l1); (try k_lt2 l2); (try k_sweep); walk_at "enter"))
  k_with "call builtin:list.append cons nil" => (k_here; (with_reducible show wpAny _ _ (call (Value.builtin "list.append") [Value.ref _, _]) _ _ _); k_dflt (refine' appendL (by k_asm) (by k_asm) (by k_upd) (by ((try simp only [List.length_append, List.length_map, List.length_cons, List.length_nil]); omega)) ?_; k_whole); intro h' F' N'; (try k_sweep))
  k_with "subscriptTail Attribute Name Attribute ref int" => (k_here; (with_reducible show wpAny _ _ (subscriptTail _ _ (Value.ref _) (Value.int _ _)) _ _ _); k_dflt (refine' itemL (by k_asm) (by with_reducible assumption) (by k_mem) (by with_reducible rfl) (by omega) ?_ (by with_unfolding_all rfl); k_whole))
  k_with "subscriptTail Subscript Attribute Attribute Constant ref int" => (k_here; (with_reducible show wpAny _ _ (subscriptTail _ _ (Value.ref _) (Value.int _ _)) _ _ _); k_dflt (refine' itemT (by k_asm) (by k_mem) (by decide) (by decide) (by rfl) (by rfl) ?_ (by with_unfolding_all rfl) (by intro _; with_unfolding_all rfl)))
  k_with "WhlIf" => first | (with_reducible refine WhlIf.no (by with_reducible assumption) ?_) | (with_reducible refine WhlIf.yes (by with_reducible assumption) ?_)
  k_with "exec While Compare cons nil" => (k_here; (with_reducible refine whl_start 100 ?_))
  intro dp un gd cn cs a ccd cl outer A₀ base h₀ L m news s rd dd tl r nt vs ws i dq Q E B F X N T hk hd hu hS hi hb he0 he1 hret
  obtain ⟨hrd, ⟨ua, ud, hdd⟩, hT⟩ := hS
  have htl := hT.htl
  have hlen := hT.hlen
  have hle := hT.hle
  by_cases hlt : i < ws.length
  · have hw : ws[i]? = some ws[i] := by simp [hlt]
    obtain ⟨at1, t1, u1, n1, hv, hm⟩ := hT.htk i _ hw
    have hb2 := hb _ (List.mem_of_getElem? hw)
    have hcmp : ((i : Int) < ((ws.length : Nat) : Int)) := by omega
    refine wpAny_call ?_
    k_dflt (walk_at "enter")
    k_extra "steps"
    rename Fr h₀ L _ _ => F9
    rename News h₀ L _ _ => N9
    exact hret _ _ _ _ F9 N9 hb2.1 hb2.2
  · have hw : ws[i]? = none := List.getElem?_eq_none (by omega)
    have hcmp : ¬ ((i : Int) < ((ws.length : Nat) : Int)) := by omega
    refine wpAny_call ?_
    k_dflt (walk_at "enter")
    k_extra "steps"
    rename Fr h₀ L _ _ => F9
    rename News h₀ L _ _ => N9
    exact hret _ _ _ _ F9 N9 he0 he1
theorem excI_is (P : Params) : excI (K05 P) 44 veMro "ValueError.__new__" 41 = true := by kernel_rfl
theorem excOver_is (P : Params) : excOver (K05 P) 44 24 = true := by kernel_rfl
theorem excSet_is (P : Params) : findIn (K05 P) (.ref 44) "__setattr__" = some (some (.builtin "object.__setattr__")) := by kernel_rfl
theorem excWhy_is (P : Params) : takerIn (K05 P) 44 (Str.ofString "why") = some none := by kernel_rfl
theorem excPlace_is (P : Params) : takerIn (K05 P) 44 (Str.ofString "place") = some none := by kernel_rfl
theorem rerr_ok (w : World) (p : Program) (loose : List Str) (mean : ExcName → Option Value) (mg mb : Str → Option Value) :
    ∀ (dp un : Nat) (gd : Option (List Code)) (cn : Str) (cs : Scope) (a : Addr) (ccd : Value) (cl : List (Str × Addr)) (outer : List Env) (A₀ : Around) (base h₀ : Heap) (L : Addr) (m : Str → Option Value) (s : Shared) (x : Str) (t : Tok) (k : Int) (u : Tok) (Q E : Value → Shared → Prop),
      Below A₀ base outer h₀ → Fr h₀ L s.heap m → (K05 w.params).In h₀ → Top p loose mean mg mb h₀ → cs.kind = .function → dp + 60 < recursionLimit → un + 500 < cLine →
      x.length ≤ 100 → 0 ≤ k → k ≤ 1000 →
      (∀ h' tk' e o, Fr h₀ L h' m → ExcO 44 o → News h₀ L h' [(e, o)] → Q (.ref e) { s with heap := h', toks := tk' }) →
      wpAny (model PySem.Challenge.rw_ui0505_05.row.prog w) (ktrTop dp un gd cn cs L a ccd cl outer) (call (.ref 44) [.str x t, .int k u]) Q E s := by
  k_fill
  k_with_none
  k_with "steps" => repeat' (first | (k_unfold; (try dsimp only)) | walk1 | (dsimp only; walk1) | (leave1; walk_say "STEP leave1"; try dsimp only) | k_extra "mine")
  k_with "spliced" => first | refine args_cons ?_ | refine args_nil ⟨Fr.keep (by assumption) _ _ (by assumption), ?_⟩ | (refine args_nil ?_; try simp only [List.cons_append, List.nil_append])
  k_with "call builtin:len cons nil" => (k_here; (with_reducible show wpAny _ _ (call (Value.builtin "len") [Value.ref _]) _ _ _); k_dflt (refine' lenL (by k_asm) (by k_mem) (by first | (with_reducible assumption) | (simp only [List.length_append, List.length_map, List.length_cons, List.length_nil]; with_reducible rfl)) (by omega) ?_))
  k_with "call ref cons nil" => (k_here; k_dflt (refine' call_cls (by k_asm) (by k_asm) (by k_asm) (by k_is) (by k_is) (by k_is) ?_; k_whole; intro x' d' h' F' N' l1 l2; (try k_lt l1); (try k_lt2 l2); (try k_sweep); walk_at "enter"))
  k_with "call builtin:list.append cons nil" => (k_here; (with_reducible show wpAny _ _ (call (Value.builtin "list.append") [Value.ref _, _]) _ _ _); k_dflt (refine' appendL (by k_asm) (by k_asm) (by k_upd) (by ((try simp only [List.length_append, List.length_map, List.length_cons, List.length_nil]); omega)) ?_; k_whole); intro h' F' N'; (try k_sweep))
  k_with "subscriptTail Attribute Name Attribute ref int" => (k_here; (with_reducible show wpAny _ _ (subscriptTail _ _ (Value.ref _) (Value.int _ _)) _ _ _); k_dflt (refine' itemL (by k_asm) (by with_reducible assumption) (by k_mem) (by with_reducible rfl) (by omega) ?_ (by with_unfolding_all rfl); k_whole))
  k_with "subscriptTail Subscript Attribute Attribute Constant ref int" => (k_here; (with_reducible show wpAny _ _ (subscriptTail _ _ (Value.ref _) (Value.int _ _)) _ _ _); k_dflt (refine' itemT (by k_asm) (by k_mem) (by decide) (by decide) (by rfl) (by rfl) ?_ (by with_unfolding_all rfl) (by intro _; with_unfolding_all rfl)))
  k_with "WhlIf" => first | (with_reducible refine WhlIf.no (by with_reducible assumption) ?_) | (with_reducible refine WhlIf.yes (by with_reducible assumption) ?_)
  k_with "exec While Compare cons nil" => (k_here; (with_reducible refine whl_start 100 ?_))
  k_with "call builtin:ValueError.__init__ cons nil" => (k_here; k_dflt (refine' exc_init (by k_asm) (by k_asm) (by k_asm) (excI_is _) ?_; intro h' tk' F' S' N'; (try k_sweep); (try dsimp only)))
  k_with "setAttr ref" => (k_here; k_dflt (refine' exc_set (C2 := 24) (by k_asm) (by k_asm) (by assumption) (excOver_is _) (excSet_is _) (by first | exact excWhy_is _ | exact excPlace_is _) (by decide) ?_; intro h' tk' o' F' S' hO' N'; (try k_sweep); (try dsimp only)))
  intro dp un gd cn cs a ccd cl outer A₀ base h₀ L m s x t k u Q E B F X T hk hd hu hxl hk0 hk1 hret
  refine exc_callK (fI := 41) PySem.F.excBase_ValueError F X (excI_is _) (by k_is) rfl (by size_fits) ?_
  intro h1 x1 t1 F1 N1
  clear F
  refine wpAny_call ?_
  k_dflt (walk_at "enter")
  k_extra "steps"
  rename Fr h₀ L _ _ => F9
  rename News h₀ L _ _ => N9
  exact hret _ _ _ _ F9 (by assumption) N9
theorem conj_ok (w : World) (p : Program) (loose : List Str) (mean : ExcName → Option Value) (mg mb : Str → Option Value) (f : Sf) (ex : Nat)
    (IH : Reads1 PySem.Challenge.rw_ui0505_05.row.prog K05 203 165 w p loose mean mg mb f ex 80 (fun x => x ≠ Str.ofString "(")) :
    Reads1 PySem.Challenge.rw_ui0505_05.row.prog K05 203 158 w p loose mean mg mb f (ex + 2) 80 (fun x => x ≠ Str.ofString "(" ∧ x ≠ Str.ofString "&") := by
  unfold Reads1
  k_fill
  k_with_none
  k_with "steps" => repeat' (first | (k_unfold; (try dsimp only)) | walk1 | (dsimp only; walk1) | (leave1; walk_say "STEP leave1"; try dsimp only) | k_extra "mine")
  k_with "spliced" => first | refine args_cons ?_ | refine args_nil ⟨Fr.keep (by assumption) _ _ (by assumption), ?_⟩ | (refine args_nil ?_; try simp only [List.cons_append, List.nil_append])
  k_with "call builtin:len cons nil" => (k_here; (with_reducible show wpAny _ _ (call (Value.builtin "len") [Value.ref _]) _ _ _); k_dflt (refine' lenL (by k_asm) (by k_mem) (by first | (with_reducible assumption) | (simp only [List.length_append, List.length_map, List.length_cons, List.length_nil]; with_reducible rfl)) (by omega) ?_))
  k_with "call ref cons nil" => (k_here; k_dflt (refine' call_cls (by k_asm) (by k_asm) (by k_asm) (by k_is) (by k_is) (by k_is) ?_; k_whole; intro x' d' h' F' N' l1 l2; (try k_lt l1); (try k_lt2 l2); (try k_sweep); walk_at "enter"))
  k_with "call builtin:list.append cons nil" => (k_here; (with_reducible show wpAny _ _ (call (Value.builtin "list.append") [Value.ref _, _]) _ _ _); k_dflt (refine' appendL (by k_asm) (by k_asm) (by k_upd) (by ((try simp only [List.length_append, List.length_map, List.length_cons, List.length_nil]); omega)) ?_; k_whole); intro h' F' N'; (try k_sweep))
  k_with "subscriptTail Attribute Name Attribute ref int" => (k_here; (with_reducible show wpAny _ _ (subscriptTail _ _ (Value.ref _) (Value.int _ _)) _ _ _); k_dflt (refine' itemL (by k_asm) (by with_reducible assumption) (by k_mem) (by with_reducible rfl) (by omega) ?_ (by with_unfolding_all rfl); k_whole))
  k_with "subscriptTail Subscript Attribute Attribute Constant ref int" => (k_here; (with_reducible show wpAny _ _ (subscriptTail _ _ (Value.ref _) (Value.int _ _)) _ _ _); k_dflt (refine' itemT (by k_asm) (by k_mem) (by decide) (by decide) (by rfl) (by rfl) ?_ (by with_unfolding_all rfl) (by intro _; with_unfolding_all rfl)))
  k_with "WhlIf" => first | (with_reducible refine WhlIf.no (by with_reducible assumption) ?_) | (with_reducible refine WhlIf.yes (by with_reducible assumption) ?_)
  k_with "exec While Compare cons nil" => (k_here; (with_reducible refine whl_start 100 ?_))
  k_with "call ref nil" => (k_here; (with_reducible show wpAny _ _ (call (Value.ref 102) _) _ _ _); k_dflt (refine' peek_ok _ _ _ _ _ _ _ _ _ _ _ _ _ _ _ _ _ _ _ _ _ _ _ _ _ _ _ _ _ _ _ _ _ _ (by k_asm) (by k_asm) (by k_asm) (by k_asm) (by k_asm) (by first | rfl | assumption) (by first | decide | omega | ktr_room) (by first | decide | omega | ktr_units) (by exact ⟨by k_mem, ⟨_, _, by k_mem⟩, TK.mono (by assumption) (fun q hq => by repeat (first | exact hq | refine List.mem_cons_of_mem _ ?_))⟩) (by first | assumption | rfl) (by omega) ?_; intro h' tk' u' F' N'; (try k_sweep); (try dsimp only)))
  k_with "call ref nil" => (k_here; (with_reducible show wpAny _ _ (call (Value.ref 165) _) _ _ _); (rename Reads1 _ _ _ _ _ _ _ _ _ _ _ _ _ _ => IH9); k_dflt (refine' IH9 _ _ _ _ _ _ _ _ _ _ _ _ _ _ _ _ _ _ _ _ _ _ _ _ _ _ _ _ (by k_asm) (by k_asm) (by k_asm) (by k_asm) (by k_asm) (by first | rfl | assumption) (by first | decide | omega | ktr_room) (by first | decide | omega | ktr_units) (by assumption) (by assumption) (by assumption) (by assumption) (by omega) (by omega) ?_; intro h' tk' v' news' F' N' K' S' f'; (have hrd' := S'.hrd); (obtain ⟨ua', ud', hdd'⟩ := S'.hdd); (have hT' := S'.tk); (try k_sweep); (try dsimp only)))
  intro dp un gd cn cs a ccd cl outer A₀ base h₀ L m news s rd dd tl r nt vs ws i dq x Q E B F X N T hk hd hu hS hat hx hst hi hdq hret
  have hS0 := hS
  obtain ⟨hrd, ⟨ua, ud, hdd⟩, hT⟩ := hS
  obtain ⟨hst1, hst2⟩ := hst
  have hne : (x == Str.ofString "&") = false := beq_eq_false_iff_ne.mpr hst2
  refine wpAny_call ?_
  k_dflt (walk_at "enter")
  k_extra "steps"
  rename Fr h₀ L _ _ => F9
  rename News h₀ L _ _ => N9
  exact hret _ _ _ _ F9 N9 (by assumption) (by assumption) (by assumption)
theorem disj_ok (w : World) (p : Program) (loose : List Str) (mean : ExcName → Option Value) (mg mb : Str → Option Value) (f : Sf) (ex : Nat)
    (IH : Reads1 PySem.Challenge.rw_ui0505_05.row.prog K05 203 158 w p loose mean mg mb f ex 80 (fun x => x ≠ Str.ofString "(" ∧ x ≠ Str.ofString "&")) :
    Reads1 PySem.Challenge.rw_ui0505_05.row.prog K05 203 151 w p loose mean mg mb f (ex + 2) 80 (fun x => (x ≠ Str.ofString "(" ∧ x ≠ Str.ofString "&") ∧ x ≠ Str.ofString "|") := by
  unfold Reads1
  k_fill
  k_with_none
  k_with "steps" => repeat' (first | (k_unfold; (try dsimp only)) | walk1 | (dsimp only; walk1) | (leave1; walk_say "STEP leave1"; try dsimp only) | k_extra "mine")
  k_with "spliced" => first | refine args_cons ?_ | refine args_nil ⟨Fr.keep (by assumption) _ _ (by assumption), ?_⟩ | (refine args_nil ?_; try simp only [List.cons_append, List.nil_append])
  k_with "call builtin:len cons nil" => (k_here; (with_reducible show wpAny _ _ (call (Value.builtin "len") [Value.ref _]) _ _ _); k_dflt (refine' lenL (by k_asm) (by k_mem) (by first | (with_reducible assumption) | (simp only [List.length_append, List.length_map, List.length_cons, List.length_nil]; with_reducible rfl)) (by omega) ?_))
  k_with "call ref cons nil" => (k_here; k_dflt (refine' call_cls (by k_asm) (by k_asm) (by k_asm) (by k_is) (by k_is) (by k_is) ?_; k_whole; intro x' d' h' F' N' l1 l2; (try k_lt l1); (try k_lt2 l2); (try k_sweep); walk_at "enter"))
  k_with "call builtin:list.append cons nil" => (k_here; (with_reducible show wpAny _ _ (call (Value.builtin "list.append") [Value.ref _, _]) _ _ _); k_dflt (refine' appendL (by k_asm) (by k_asm) (by k_upd) (by ((try simp only [List.length_append, List.length_map, List.length_cons, List.length_nil]); omega)) ?_; k_whole); intro h' F' N'; (try k_sweep))
  k_with "subscriptTail Attribute Name Attribute ref int" => (k_here; (with_reducible show wpAny _ _ (subscriptTail _ _ (Value.ref _) (Value.int _ _)) _ _ _); k_dflt (refine' itemL (by k_asm) (by with_reducible assumption) (by k_mem) (by with_reducible rfl) (by omega) ?_ (by with_unfolding_all rfl); k_whole))
  k_with "subscriptTail Subscript Attribute Attribute Constant ref int" => (k_here; (with_reducible show wpAny _ _ (subscriptTail _ _ (Value.ref _) (Value.int _ _)) _ _ _); k_dflt (refine' itemT (by k_asm) (by k_mem) (by decide) (by decide) (by rfl) (by rfl) ?_ (by with_unfolding_all rfl) (by intro _; with_unfolding_all rfl)))
  k_with "WhlIf" => first | (with_reducible refine WhlIf.no (by with_reducible assumption) ?_) | (with_reducible refine WhlIf.yes (by with_reducible assumption) ?_)
  k_with "exec While Compare cons nil" => (k_here; (with_reducible refine whl_start 100 ?_))
  k_with "call ref nil" => (k_here; (with_reducible show wpAny _ _ (call (Value.ref 102) _) _ _ _); k_dflt (refine' peek_ok _ _ _ _ _ _ _ _ _ _ _ _ _ _ _ _ _ _ _ _ _ _ _ _ _ _ _ _ _ _ _ _ _ _ (by k_asm) (by k_asm) (by k_asm) (by k_asm) (by k_asm) (by first | rfl | assumption) (by first | decide | omega | ktr_room) (by first | decide | omega | ktr_units) (by exact ⟨by k_mem, ⟨_, _, by k_mem⟩, TK.mono (by assumption) (fun q hq => by repeat (first | exact hq | refine List.mem_cons_of_mem _ ?_))⟩) (by first | assumption | rfl) (by omega) ?_; intro h' tk' u' F' N'; (try k_sweep); (try dsimp only)))
  k_with "call ref nil" => (k_here; (with_reducible show wpAny _ _ (call (Value.ref 158) _) _ _ _); (rename Reads1 _ _ _ _ _ _ _ _ _ _ _ _ _ _ => IH9); k_dflt (refine' IH9 _ _ _ _ _ _ _ _ _ _ _ _ _ _ _ _ _ _ _ _ _ _ _ _ _ _ _ _ (by k_asm) (by k_asm) (by k_asm) (by k_asm) (by k_asm) (by first | rfl | assumption) (by first | decide | omega | ktr_room) (by first | decide | omega | ktr_units) (by assumption) (by assumption) (by assumption) (by assumption) (by omega) (by omega) ?_; intro h' tk' v' news' F' N' K' S' f'; (have hrd' := S'.hrd); (obtain ⟨ua', ud', hdd'⟩ := S'.hdd); (have hT' := S'.tk); (try k_sweep); (try dsimp only)))
  intro dp un gd cn cs a ccd cl outer A₀ base h₀ L m news s rd dd tl r nt vs ws i dq x Q E B F X N T hk hd hu hS hat hx hst hi hdq hret
  have hS0 := hS
  obtain ⟨hrd, ⟨ua, ud, hdd⟩, hT⟩ := hS
  obtain ⟨hst1, hst2⟩ := hst
  have hne : (x == Str.ofString "|") = false := beq_eq_false_iff_ne.mpr hst2
  refine wpAny_call ?_
  k_dflt (walk_at "enter")
  k_extra "steps"
  rename Fr h₀ L _ _ => F9
  rename News h₀ L _ _ => N9
  exact hret _ _ _ _ F9 N9 (by assumption) (by assumption) (by assumption)
theorem simple_ok (w : World) (p : Program) (loose : List Str) (mean : ExcName → Option Value) (mg mb : Str → Option Value) (f : Sf) (ex : Nat)
    (IH : Reads1 PySem.Challenge.rw_ui0505_05.row.prog K05 203 172 w p loose mean mg mb f ex 81 (fun x => x ≠ Str.ofString "(")) :
    Reads1 PySem.Challenge.rw_ui0505_05.row.prog K05 203 165 w p loose mean mg mb f (ex + 2) 80 (fun x => x ≠ Str.ofString "(") := by
  unfold Reads1
  k_fill
  k_with_none
  k_with "steps" => repeat' (first | (k_unfold; (try dsimp only)) | walk1 | (dsimp only; walk1) | (leave1; walk_say "STEP leave1"; try dsimp only) | k_extra "mine")
  k_with "spliced" => first | refine args_cons ?_ | refine args_nil ⟨Fr.keep (by assumption) _ _ (by assumption), ?_⟩ | (refine args_nil ?_; try simp only [List.cons_append, List.nil_append])
  k_with "call builtin:len cons nil" => (k_here; (with_reducible show wpAny _ _ (call (Value.builtin "len") [Value.ref _]) _ _ _); k_dflt (refine' lenL (by k_asm) (by k_mem) (by first | (with_reducible assumption) | (simp only [List.length_append, List.length_map, List.length_cons, List.length_nil]; with_reducible rfl)) (by omega) ?_))
  k_with "call ref cons nil" => (k_here; k_dflt (refine' call_cls (by k_asm) (by k_asm) (by k_asm) (by k_is) (by k_is) (by k_is) ?_; k_whole; intro x' d' h' F' N' l1 l2; (try k_lt l1); (try k_lt2 l2); (try k_sweep); walk_at "enter"))
  k_with "call builtin:list.append cons nil" => (k_here; (with_reducible show wpAny _ _ (call (Value.builtin "list.append") [Value.ref _, _]) _ _ _); k_dflt (refine' appendL (by k_asm) (by k_asm) (by k_upd) (by ((try simp only [List.length_append, List.length_map, List.length_cons, List.length_nil]); omega)) ?_; k_whole); intro h' F' N'; (try k_sweep))
  k_with "subscriptTail Attribute Name Attribute ref int" => (k_here; (with_reducible show wpAny _ _ (subscriptTail _ _ (Value.ref _) (Value.int _ _)) _ _ _); k_dflt (refine' itemL (by k_asm) (by with_reducible assumption) (by k_mem) (by with_reducible rfl) (by omega) ?_ (by with_unfolding_all rfl); k_whole))
  k_with "subscriptTail Subscript Attribute Attribute Constant ref int" => (k_here; (with_reducible show wpAny _ _ (subscriptTail _ _ (Value.ref _) (Value.int _ _)) _ _ _); k_dflt (refine' itemT (by k_asm) (by k_mem) (by decide) (by decide) (by rfl) (by rfl) ?_ (by with_unfolding_all rfl) (by intro _; with_unfolding_all rfl)))
  k_with "WhlIf" => first | (with_reducible refine WhlIf.no (by with_reducible assumption) ?_) | (with_reducible refine WhlIf.yes (by with_reducible assumption) ?_)
  k_with "exec While Compare cons nil" => (k_here; (with_reducible refine whl_start 100 ?_))
  k_with "call ref nil" => (k_here; (with_reducible show wpAny _ _ (call (Value.ref 102) _) _ _ _); k_dflt (refine' peek_ok _ _ _ _ _ _ _ _ _ _ _ _ _ _ _ _ _ _ _ _ _ _ _ _ _ _ _ _ _ _ _ _ _ _ (by k_asm) (by k_asm) (by k_asm) (by k_asm) (by k_asm) (by first | rfl | assumption) (by first | decide | omega | ktr_room) (by first | decide | omega | ktr_units) (by exact ⟨by k_mem, ⟨_, _, by k_mem⟩, TK.mono (by assumption) (fun q hq => by repeat (first | exact hq | refine List.mem_cons_of_mem _ ?_))⟩) (by first | assumption | rfl) (by omega) ?_; intro h' tk' u' F' N'; (try k_sweep); (try dsimp only)))
  k_with "call ref nil" => (k_here; (with_reducible show wpAny _ _ (call (Value.ref 172) _) _ _ _); (rename Reads1 _ _ _ _ _ _ _ _ _ _ _ _ _ _ => IH9); k_dflt (refine' IH9 _ _ _ _ _ _ _ _ _ _ _ _ _ _ _ _ _ _ _ _ _ _ _ _ (dq + 1) _ _ _ (by k_asm) (by k_asm) (by k_asm) (by k_asm) (by k_asm) (by first | rfl | assumption) (by first | decide | omega | ktr_room) (by first | decide | omega | ktr_units) (by exact RS.cast ⟨by k_mem, ⟨_, _, by k_mem⟩, TK.mono (by assumption) (fun q hq => by repeat (first | exact hq | refine List.mem_cons_of_mem _ ?_))⟩ (by omega)) (by assumption) (by assumption) (by assumption) (by omega) (by omega) ?_; intro h' tk' v' news' F' N' K' S' f'; (obtain ⟨hrd', ⟨ua', ud', hdd'⟩, hT'⟩ := id S'); (have N1' := RS.front N' hdd'); (have hT1' := hT'.off N' hdd' rfl); (have nr' : @Ne Nat rd dd := nne Obj.cls N' hrd' hdd' (fun e => by cases e)); (have hr1' := mem_off.mpr (And.intro hrd' nr')); (have ad' := @off_ne dd news'); (have hN' := N'); (have hk1' : Kept dd news' (off dd news') := fun q hq hne => mem_off.mpr ⟨hq, hne⟩); (have f1' : FIs (off dd news') v' f := f'.keep N' hdd' rfl hk1'); (generalize off dd news' = rest' at N1' hT1' hr1' ad' hk1' f1'); (clear N' hrd' hdd' hT'); (try k_sweep); (try dsimp only)))
  intro dp un gd cn cs a ccd cl outer A₀ base h₀ L m news s rd dd tl r nt vs ws i dq x Q E B F X N T hk hd hu hS hat hx hst hi hdq hret
  have hS0 := hS
  obtain ⟨hrd, ⟨ua, ud, hdd⟩, hT⟩ := hS
  have N1 := RS.front N hdd
  have hT1 := hT.off N hdd rfl
  have nr : @Ne Nat rd dd := nne Obj.cls N hrd hdd (fun e => by cases e)
  have hr1 : (rd, instObj 203 dd) ∈ off dd news := mem_off.mpr ⟨hrd, nr⟩
  have ad : ∀ q ∈ off dd news, q.1 ≠ dd := off_ne
  have hN := N
  have hk1 : Kept dd news (off dd news) := fun q hq hne => mem_off.mpr ⟨hq, hne⟩
  generalize off dd news = rest at N1 hT1 hr1 ad hk1
  clear N hrd hdd hT
  have hdp := f.deep_pos
  have hcut : decide ((80 : Int) < (dq : Int) + 1) = false := decide_eq_false (by omega)
  refine wpAny_call ?_
  k_dflt (walk_at "enter")
  k_extra "steps"
  rename Fr h₀ L _ _ => F9
  rename News h₀ L _ _ => N9
  refine hret _ _ _ _ F9 N9 ?_ (RS.cast ⟨List.mem_cons_of_mem _ hr1', ⟨_, _, List.mem_cons_self⟩, hT1'.mono fun q hq => List.mem_cons_of_mem _ hq⟩ (by omega)) (f1'.mono fun q hq => List.mem_cons_of_mem _ hq)
  exact (((hk1.trans (Kept.sub fun q hq => List.mem_cons_of_mem _ hq)).trans K').trans hk1').trans (Kept.sub fun q hq => List.mem_cons_of_mem _ hq)
theorem sno_ok (w : World) (p : Program) (loose : List Str) (mean : ExcName → Option Value) (mg mb : Str → Option Value) (f : Sf)
    (IH : Reads1 PySem.Challenge.rw_ui0505_05.row.prog K05 203 165 w p loose mean mg mb f 2 80 (fun x => x ≠ Str.ofString "(")) :
    Reads1 PySem.Challenge.rw_ui0505_05.row.prog K05 203 172 w p loose mean mg mb (.no f) 0 81 (fun x => x ≠ Str.ofString "(") := by
  unfold Reads1
  k_fill
  k_with_none
  k_with "steps" => repeat' (first | (k_unfold; (try dsimp only)) | walk1 | (dsimp only; walk1) | (leave1; walk_say "STEP leave1"; try dsimp only) | k_extra "mine")
  k_with "spliced" => first | refine args_cons ?_ | refine args_nil ⟨Fr.keep (by assumption) _ _ (by assumption), ?_⟩ | (refine args_nil ?_; try simp only [List.cons_append, List.nil_append])
  k_with "call builtin:len cons nil" => (k_here; (with_reducible show wpAny _ _ (call (Value.builtin "len") [Value.ref _]) _ _ _); k_dflt (refine' lenL (by k_asm) (by k_mem) (by first | (with_reducible assumption) | (simp only [List.length_append, List.length_map, List.length_cons, List.length_nil]; with_reducible rfl)) (by omega) ?_))
  k_with "call ref cons nil" => (k_here; k_dflt (refine' call_cls (by k_asm) (by k_asm) (by k_asm) (by k_is) (by k_is) (by k_is) ?_; k_whole; intro x' d' h' F' N' l1 l2; (try k_lt l1); (try k_lt2 l2); (try k_sweep); walk_at "enter"))
  k_with "call builtin:list.append cons nil" => (k_here; (with_reducible show wpAny _ _ (call (Value.builtin "list.append") [Value.ref _, _]) _ _ _); k_dflt (refine' appendL (by k_asm) (by k_asm) (by k_upd) (by ((try simp only [List.length_append, List.length_map, List.length_cons, List.length_nil]); omega)) ?_; k_whole); intro h' F' N'; (try k_sweep))
  k_with "subscriptTail Attribute Name Attribute ref int" => (k_here; (with_reducible show wpAny _ _ (subscriptTail _ _ (Value.ref _) (Value.int _ _)) _ _ _); k_dflt (refine' itemL (by k_asm) (by with_reducible assumption) (by k_mem) (by with_reducible rfl) (by omega) ?_ (by with_unfolding_all rfl); k_whole))
  k_with "subscriptTail Subscript Attribute Attribute Constant ref int" => (k_here; (with_reducible show wpAny _ _ (subscriptTail _ _ (Value.ref _) (Value.int _ _)) _ _ _); k_dflt (refine' itemT (by k_asm) (by k_mem) (by decide) (by decide) (by rfl) (by rfl) ?_ (by with_unfolding_all rfl) (by intro _; with_unfolding_all rfl)))
  k_with "WhlIf" => first | (with_reducible refine WhlIf.no (by with_reducible assumption) ?_) | (with_reducible refine WhlIf.yes (by with_reducible assumption) ?_)
  k_with "exec While Compare cons nil" => (k_here; (with_reducible refine whl_start 100 ?_))
  k_with "call ref nil" => (k_here; (with_reducible show wpAny _ _ (call (Value.ref 102) _) _ _ _); k_dflt (refine' peek_ok _ _ _ _ _ _ _ _ _ _ _ _ _ _ _ _ _ _ _ _ _ _ _ _ _ _ _ _ _ _ _ _ _ _ (by k_asm) (by k_asm) (by k_asm) (by k_asm) (by k_asm) (by first | rfl | assumption) (by first | decide | omega | ktr_room) (by first | decide | omega | ktr_units) (by exact ⟨by k_mem, ⟨_, _, by k_mem⟩, TK.mono (by assumption) (fun q hq => by repeat (first | exact hq | refine List.mem_cons_of_mem _ ?_))⟩) (by first | assumption | rfl) (by omega) ?_; intro h' tk' u' F' N'; (try k_sweep); (try dsimp only)))
  k_with "call ref nil" => (k_here; (with_reducible show wpAny _ _ (call (Value.ref 116) _) _ _ _); k_dflt (refine' take_ok _ _ _ _ _ _ _ _ _ _ _ _ _ _ _ _ _ _ _ _ _ _ _ _ _ _ _ _ _ _ _ _ _ _ (by k_asm) (by k_asm) (by k_asm) (by k_asm) (by k_asm) (by first | rfl | assumption) (by first | decide | omega | ktr_room) (by first | decide | omega | ktr_units) (by exact ⟨by k_mem, ⟨_, _, by k_mem⟩, TK.mono (by assumption) (fun q hq => by repeat (first | exact hq | refine List.mem_cons_of_mem _ ?_))⟩) (by first | assumption | rfl) (by omega) ?_; intro h' tk' u' news' F' N' K' S'; (have hrd' := S'.hrd); (obtain ⟨ua', ud', hdd'⟩ := S'.hdd); (have hT' := S'.tk); (try k_sweep); (try dsimp only)))
  k_with "call ref nil" => (k_here; (with_reducible show wpAny _ _ (call (Value.ref 165) _) _ _ _); (rename Reads1 _ _ _ _ _ _ _ _ _ _ _ _ _ _ => IH9); k_dflt (refine' IH9 _ _ _ _ _ _ _ _ _ _ _ _ _ _ _ _ _ _ _ _ _ _ _ _ _ x _ _ (by k_asm) (by k_asm) (by k_asm) (by k_asm) (by k_asm) (by first | rfl | assumption) (by first | decide | omega | ktr_room) (by first | decide | omega | ktr_units) (by assumption) (by assumption) (by rw [← hx]; congr 1; omega) (by assumption) (by omega) (by omega) ?_; intro h' tk' v' news' F' N' K' S' f'; (have hrd' := S'.hrd); (obtain ⟨ua', ud', hdd'⟩ := S'.hdd); (have hT' := S'.tk); (try k_sweep); (try dsimp only)))
  intro dp un gd cn cs a ccd cl outer A₀ base h₀ L m news s rd dd tl r nt vs ws i dq x Q E B F X N T hk hd hu hS hat hx hst hi hdq hret
  have hS0 := hS
  obtain ⟨hrd, ⟨ua, ud, hdd⟩, hT⟩ := hS
  have hw0 := hat.head
  have hat1 := hat.tail
  simp only [Sf.size, Sf.words, List.length_cons, Sf.deep] at *
  refine wpAny_call ?_
  k_dflt (walk_at "enter")
  k_extra "steps"
  rename Fr h₀ L _ _ => F9
  rename News h₀ L _ _ => N9
  rename Kept dd news _ => Ka
  have e9 : i + 1 + f.words.length = i + (f.words.length + 1) := by omega
  rw [e9] at S'
  exact hret _ _ _ _ F9 N9 ((Ka.trans K').trans (Kept.sub fun q hq => List.mem_cons_of_mem _ hq)) (S'.mono fun q hq => List.mem_cons_of_mem _ hq) (.no (n := 0) List.mem_cons_self (f'.mono fun q hq => List.mem_cons_of_mem _ hq))
theorem args0_ok (w : World) (p : Program) (loose : List Str) (mean : ExcName → Option Value) (mg mb : Str → Option Value) :
    ∀ (dp un : Nat) (gd : Option (List Code)) (cn : Str) (cs : Scope) (a : Addr) (ccd : Value) (cl : List (Str × Addr)) (outer : List Env) (A₀ : Around) (base h₀ : Heap) (L : Addr) (m : Str → Option Value) (news : List (Addr × Obj)) (s : Shared) (rd dd tl : Addr) (r : RT) (nt : Nat) (vs : List Value) (ws : List (Str × Int)) (i : Nat) (dq : Int) (x : Str) (Q E : Value → Shared → Prop),
      Below A₀ base outer h₀ → Fr h₀ L s.heap m → (K05 w.params).In h₀ → News h₀ L s.heap news → Top p loose mean mg mb h₀ → cs.kind = .function → dp + 40 < recursionLimit → un + 320 < cLine →
      RS 203 w news rd dd tl r nt vs ws i dq → wordAt ws i = x → x ≠ Str.ofString "(" → i ≤ 900 →
      (∀ h' tk' b n news', Fr h₀ L h' m → News h₀ L h' news' → (∀ q ∈ news, q ∈ news') → (b, tupO [] n) ∈ news' → Q (.ref b) { s with heap := h', toks := tk' }) →
      wpAny (model PySem.Challenge.rw_ui0505_05.row.prog w) (ktrTop dp un gd cn cs L a ccd cl outer) (call (.ref 186) [.ref rd]) Q E s := by
  k_fill
  k_with_none
  k_with "steps" => repeat' (first | (k_unfold; (try dsimp only)) | walk1 | (dsimp only; walk1) | (leave1; walk_say "STEP leave1"; try dsimp only) | k_extra "mine")
  k_with "spliced" => first | refine args_cons ?_ | refine args_nil ⟨Fr.keep (by assumption) _ _ (by assumption), ?_⟩ | (refine args_nil ?_; try simp only [List.cons_append, List.nil_append])
  k_with "call builtin:len cons nil" => (k_here; (with_reducible show wpAny _ _ (call (Value.builtin "len") [Value.ref _]) _ _ _); k_dflt (refine' lenL (by k_asm) (by k_mem) (by first | (with_reducible assumption) | (simp only [List.length_append, List.length_map, List.length_cons, List.length_nil]; with_reducible rfl)) (by omega) ?_))
  k_with "call ref cons nil" => (k_here; k_dflt (refine' call_cls (by k_asm) (by k_asm) (by k_asm) (by k_is) (by k_is) (by k_is) ?_; k_whole; intro x' d' h' F' N' l1 l2; (try k_lt l1); (try k_lt2 l2); (try k_sweep); walk_at "enter"))
  k_with "call builtin:list.append cons nil" => (k_here; (with_reducible show wpAny _ _ (call (Value.builtin "list.append") [Value.ref _, _]) _ _ _); k_dflt (refine' appendL (by k_asm) (by k_asm) (by k_upd) (by ((try simp only [List.length_append, List.length_map, List.length_cons, List.length_nil]); omega)) ?_; k_whole); intro h' F' N'; (try k_sweep))
  k_with "subscriptTail Attribute Name Attribute ref int" => (k_here; (with_reducible show wpAny _ _ (subscriptTail _ _ (Value.ref _) (Value.int _ _)) _ _ _); k_dflt (refine' itemL (by k_asm) (by with_reducible assumption) (by k_mem) (by with_reducible rfl) (by omega) ?_ (by with_unfolding_all rfl); k_whole))
  k_with "subscriptTail Subscript Attribute Attribute Constant ref int" => (k_here; (with_reducible show wpAny _ _ (subscriptTail _ _ (Value.ref _) (Value.int _ _)) _ _ _); k_dflt (refine' itemT (by k_asm) (by k_mem) (by decide) (by decide) (by rfl) (by rfl) ?_ (by with_unfolding_all rfl) (by intro _; with_unfolding_all rfl)))
  k_with "WhlIf" => first | (with_reducible refine WhlIf.no (by with_reducible assumption) ?_) | (with_reducible refine WhlIf.yes (by with_reducible assumption) ?_)
  k_with "exec While Compare cons nil" => (k_here; (with_reducible refine whl_start 100 ?_))
  k_with "call ref nil" => (k_here; (with_reducible show wpAny _ _ (call (Value.ref 102) _) _ _ _); k_dflt (refine' peek_ok _ _ _ _ _ _ _ _ _ _ _ _ _ _ _ _ _ _ _ _ _ _ _ _ _ _ _ _ _ _ _ _ _ _ (by k_asm) (by k_asm) (by k_asm) (by k_asm) (by k_asm) (by first | rfl | assumption) (by first | decide | omega | ktr_room) (by first | decide | omega | ktr_units) (by exact ⟨by k_mem, ⟨_, _, by k_mem⟩, TK.mono (by assumption) (fun q hq => by repeat (first | exact hq | refine List.mem_cons_of_mem _ ?_))⟩) (by first | assumption | rfl) (by omega) ?_; intro h' tk' u' F' N'; (try k_sweep); (try dsimp only)))
  intro dp un gd cn cs a ccd cl outer A₀ base h₀ L m news s rd dd tl r nt vs ws i dq x Q E B F X N T hk hd hu hS hx hst hi hret
  obtain ⟨hrd, ⟨ua, ud, hdd⟩, hT⟩ := hS
  have hne : (x == Str.ofString "(") = false := beq_eq_false_iff_ne.mpr hst
  refine wpAny_call ?_
  k_dflt (walk_at "enter")
  k_extra "steps"
  rename Fr h₀ L _ _ => F9
  rename News h₀ L _ _ => N9
  exact hret _ _ _ 0 _ F9 N9 (fun q hq => List.mem_cons_of_mem _ (List.mem_cons_of_mem _ hq)) List.mem_cons_self
theorem satom_ok (w : World) (p : Program) (loose : List Str) (mean : ExcName → Option Value) (mg mb : Str → Option Value) :
    Reads1 PySem.Challenge.rw_ui0505_05.row.prog K05 203 172 w p loose mean mg mb .atom 0 81 (fun x => x ≠ Str.ofString "(") := by
  unfold Reads1
  k_fill
  k_with_none
  k_with "steps" => repeat' (first | (k_unfold; (try dsimp only)) | walk1 | (dsimp only; walk1) | (leave1; walk_say "STEP leave1"; try dsimp only) | k_extra "mine")
  k_with "spliced" => first | refine args_cons ?_ | refine args_nil ⟨Fr.keep (by assumption) _ _ (by assumption), ?_⟩ | (refine args_nil ?_; try simp only [List.cons_append, List.nil_append])
  k_with "call builtin:len cons nil" => (k_here; (with_reducible show wpAny _ _ (call (Value.builtin "len") [Value.ref _]) _ _ _); k_dflt (refine' lenL (by k_asm) (by k_mem) (by first | (with_reducible assumption) | (simp only [List.length_append, List.length_map, List.length_cons, List.length_nil]; with_reducible rfl)) (by omega) ?_))
  k_with "call ref cons nil" => (k_here; k_dflt (refine' call_cls (by k_asm) (by k_asm) (by k_asm) (by k_is) (by k_is) (by k_is) ?_; k_whole; intro x' d' h' F' N' l1 l2; (try k_lt l1); (try k_lt2 l2); (try k_sweep); walk_at "enter"))
  k_with "call builtin:list.append cons nil" => (k_here; (with_reducible show wpAny _ _ (call (Value.builtin "list.append") [Value.ref _, _]) _ _ _); k_dflt (refine' appendL (by k_asm) (by k_asm) (by k_upd) (by ((try simp only [List.length_append, List.length_map, List.length_cons, List.length_nil]); omega)) ?_; k_whole); intro h' F' N'; (try k_sweep))
  k_with "subscriptTail Attribute Name Attribute ref int" => (k_here; (with_reducible show wpAny _ _ (subscriptTail _ _ (Value.ref _) (Value.int _ _)) _ _ _); k_dflt (refine' itemL (by k_asm) (by with_reducible assumption) (by k_mem) (by with_reducible rfl) (by omega) ?_ (by with_unfolding_all rfl); k_whole))
  k_with "subscriptTail Subscript Attribute Attribute Constant ref int" => (k_here; (with_reducible show wpAny _ _ (subscriptTail _ _ (Value.ref _) (Value.int _ _)) _ _ _); k_dflt (refine' itemT (by k_asm) (by k_mem) (by decide) (by decide) (by rfl) (by rfl) ?_ (by with_unfolding_all rfl) (by intro _; with_unfolding_all rfl)))
  k_with "WhlIf" => first | (with_reducible refine WhlIf.no (by with_reducible assumption) ?_) | (with_reducible refine WhlIf.yes (by with_reducible assumption) ?_)
  k_with "exec While Compare cons nil" => (k_here; (with_reducible refine whl_start 100 ?_))
  k_with "call ref nil" => (k_here; (with_reducible show wpAny _ _ (call (Value.ref 102) _) _ _ _); k_dflt (refine' peek_ok _ _ _ _ _ _ _ _ _ _ _ _ _ _ _ _ _ _ _ _ _ _ _ _ _ _ _ _ _ _ _ _ _ _ (by k_asm) (by k_asm) (by k_asm) (by k_asm) (by k_asm) (by first | rfl | assumption) (by first | decide | omega | ktr_room) (by first | decide | omega | ktr_units) (by exact ⟨by k_mem, ⟨_, _, by k_mem⟩, TK.mono (by assumption) (fun q hq => by repeat (first | exact hq | refine List.mem_cons_of_mem _ ?_))⟩) (by first | assumption | rfl) (by omega) ?_; intro h' tk' u' F' N'; (try k_sweep); (try dsimp only)))
  k_with "call ref nil" => (k_here; (with_reducible show wpAny _ _ (call (Value.ref 116) _) _ _ _); k_dflt (refine' take_ok _ _ _ _ _ _ _ _ _ _ _ _ _ _ _ _ _ _ _ _ _ _ _ _ _ _ _ _ _ _ _ _ _ _ (by k_asm) (by k_asm) (by k_asm) (by k_asm) (by k_asm) (by first | rfl | assumption) (by first | decide | omega | ktr_room) (by first | decide | omega | ktr_units) (by exact ⟨by k_mem, ⟨_, _, by k_mem⟩, TK.mono (by assumption) (fun q hq => by repeat (first | exact hq | refine List.mem_cons_of_mem _ ?_))⟩) (by first | assumption | rfl) (by omega) ?_; intro h' tk' u' news' F' N' K' S'; (have hrd' := S'.hrd); (obtain ⟨ua', ud', hdd'⟩ := S'.hdd); (have hT' := S'.tk); (try k_sweep); (try dsimp only)))
  k_with "call ref nil" => (k_here; (with_reducible show wpAny _ _ (call (Value.ref 186) _) _ _ _); k_dflt (refine' args0_ok _ _ _ _ _ _ _ _ _ _ _ _ _ _ _ _ _ _ _ _ _ _ _ _ _ _ _ _ _ _ _ _ _ _ (by k_asm) (by k_asm) (by k_asm) (by k_asm) (by k_asm) (by first | rfl | assumption) (by first | decide | omega | ktr_room) (by first | decide | omega | ktr_units) (by exact ⟨by k_mem, ⟨_, _, by k_mem⟩, TK.mono (by assumption) (fun q hq => by repeat (first | exact hq | refine List.mem_cons_of_mem _ ?_))⟩) (by assumption) (by assumption) (by omega) ?_; intro h' tk' b' n' news2' F' N' K2' hb'; (try k_sweep); (try dsimp only)))
  intro dp un gd cn cs a ccd cl outer A₀ base h₀ L m news s rd dd tl r nt vs ws i dq x Q E B F X N T hk hd hu hS hat hx hst hi hdq hret
  have hS0 := hS
  obtain ⟨hrd, ⟨ua, ud, hdd⟩, hT⟩ := hS
  have hw0 := hat.head
  simp only [Sf.size, Sf.words, List.length_cons, List.length_nil, Sf.deep] at *
  refine wpAny_call ?_
  k_dflt (walk_at "enter")
  k_extra "steps"
  rename Fr h₀ L _ _ => F9
  rename News h₀ L _ _ => N9
  exact hret _ _ _ _ F9 N9 (K'.trans (Kept.sub fun q hq => List.mem_cons_of_mem _ (K2' q hq))) (S'.mono fun q hq => List.mem_cons_of_mem _ (K2' q hq)) (.atom (n := 0) List.mem_cons_self (List.mem_cons_of_mem _ hb'))
/-- nots before a letter -/
def nots : Nat → Sf
  | 0 => .atom
  | n + 1 => .no (nots n)
theorem nots_ok (w : World) (p : Program) (loose : List Str) (mean : ExcName → Option Value) (mg mb : Str → Option Value) : ∀ n : Nat,
    Reads1 PySem.Challenge.rw_ui0505_05.row.prog K05 203 165 w p loose mean mg mb (nots n) 2 80 (fun x => x ≠ Str.ofString "(")
  | 0 => simple_ok w p loose mean mg mb .atom 0 (satom_ok w p loose mean mg mb)
  | n + 1 => simple_ok w p loose mean mg mb (.no (nots n)) 0 (sno_ok w p loose mean mg mb (nots n) (nots_ok w p loose mean mg mb n))
theorem nots_disj (w : World) (p : Program) (loose : List Str) (mean : ExcName → Option Value) (mg mb : Str → Option Value) (n : Nat) :
    Reads1 PySem.Challenge.rw_ui0505_05.row.prog K05 203 151 w p loose mean mg mb (nots n) 6 80 (fun x => (x ≠ Str.ofString "(" ∧ x ≠ Str.ofString "&") ∧ x ≠ Str.ofString "|") :=
  disj_ok w p loose mean mg mb _ 4 (conj_ok w p loose mean mg mb _ 2 (nots_ok w p loose mean mg mb n))
theorem imp1_ok (w : World) (p : Program) (loose : List Str) (mean : ExcName → Option Value) (mg mb : Str → Option Value) (f : Sf) (ex : Nat)
    (IH : Reads1 PySem.Challenge.rw_ui0505_05.row.prog K05 203 151 w p loose mean mg mb f ex 80 (fun x => (x ≠ Str.ofString "(" ∧ x ≠ Str.ofString "&") ∧ x ≠ Str.ofString "|")) :
    Reads1 PySem.Challenge.rw_ui0505_05.row.prog K05 203 144 w p loose mean mg mb f (ex + 2) 80 (fun x => ((x ≠ Str.ofString "(" ∧ x ≠ Str.ofString "&") ∧ x ≠ Str.ofString "|") ∧ x ≠ Str.ofString "->") := by
  unfold Reads1
  k_fill
  k_with_none
  k_with "steps" => repeat' (first | (k_unfold; (try dsimp only)) | walk1 | (dsimp only; walk1) | (leave1; walk_say "STEP leave1"; try dsimp only) | k_extra "mine")
  k_with "spliced" => first | refine args_cons ?_ | refine args_nil ⟨Fr.keep (by assumption) _ _ (by assumption), ?_⟩ | (refine args_nil ?_; try simp only [List.cons_append, List.nil_append])
  k_with "call builtin:len cons nil" => (k_here; (with_reducible show wpAny _ _ (call (Value.builtin "len") [Value.ref _]) _ _ _); k_dflt (refine' lenL (by k_asm) (by k_mem) (by first | (with_reducible assumption) | (simp only [List.length_append, List.length_map, List.length_cons, List.length_nil]; with_reducible rfl)) (by omega) ?_))
  k_with "call ref cons nil" => (k_here; k_dflt (refine' call_cls (by k_asm) (by k_asm) (by k_asm) (by k_is) (by k_is) (by k_is) ?_; k_whole; intro x' d' h' F' N' l1 l2; (try k_lt l1); (try k_lt2 l2); (try k_sweep); walk_at "enter"))
  k_with "call builtin:list.append cons nil" => (k_here; (with_reducible show wpAny _ _ (call (Value.builtin "list.append") [Value.ref _, _]) _ _ _); k_dflt (refine' appendL (by k_asm) (by k_asm) (by k_upd) (by ((try simp only [List.length_append, List.length_map, List.length_cons, List.length_nil]); omega)) ?_; k_whole); intro h' F' N'; (try k_sweep))
  k_with "subscriptTail Attribute Name Attribute ref int" => (k_here; (with_reducible show wpAny _ _ (subscriptTail _ _ (Value.ref _) (Value.int _ _)) _ _ _); k_dflt (refine' itemL (by k_asm) (by with_reducible assumption) (by k_mem) (by with_reducible rfl) (by omega) ?_ (by with_unfolding_all rfl); k_whole))
  k_with "subscriptTail Subscript Attribute Attribute Constant ref int" => (k_here; (with_reducible show wpAny _ _ (subscriptTail _ _ (Value.ref _) (Value.int _ _)) _ _ _); k_dflt (refine' itemT (by k_asm) (by k_mem) (by decide) (by decide) (by rfl) (by rfl) ?_ (by with_unfolding_all rfl) (by intro _; with_unfolding_all rfl)))
  k_with "WhlIf" => first | (with_reducible refine WhlIf.no (by with_reducible assumption) ?_) | (with_reducible refine WhlIf.yes (by with_reducible assumption) ?_)
  k_with "exec While Compare cons nil" => (k_here; (with_reducible refine whl_start 100 ?_))
  k_with "call ref nil" => (k_here; (with_reducible show wpAny _ _ (call (Value.ref 102) _) _ _ _); k_dflt (refine' peek_ok _ _ _ _ _ _ _ _ _ _ _ _ _ _ _ _ _ _ _ _ _ _ _ _ _ _ _ _ _ _ _ _ _ _ (by k_asm) (by k_asm) (by k_asm) (by k_asm) (by k_asm) (by first | rfl | assumption) (by first | decide | omega | ktr_room) (by first | decide | omega | ktr_units) (by exact ⟨by k_mem, ⟨_, _, by k_mem⟩, TK.mono (by assumption) (fun q hq => by repeat (first | exact hq | refine List.mem_cons_of_mem _ ?_))⟩) (by first | assumption | rfl) (by omega) ?_; intro h' tk' u' F' N'; (try k_sweep); (try dsimp only)))
  k_with "call ref nil" => (k_here; (with_reducible show wpAny _ _ (call (Value.ref 151) _) _ _ _); (rename Reads1 _ _ _ _ _ _ _ _ _ _ _ _ _ _ => IH9); k_dflt (refine' IH9 _ _ _ _ _ _ _ _ _ _ _ _ _ _ _ _ _ _ _ _ _ _ _ _ _ _ _ _ (by k_asm) (by k_asm) (by k_asm) (by k_asm) (by k_asm) (by first | rfl | assumption) (by first | decide | omega | ktr_room) (by first | decide | omega | ktr_units) (by assumption) (by assumption) (by assumption) (by assumption) (by omega) (by omega) ?_; intro h' tk' v' news' F' N' K' S' f'; (have hrd' := S'.hrd); (obtain ⟨ua', ud', hdd'⟩ := S'.hdd); (have hT' := S'.tk); (try k_sweep); (try dsimp only)))
  intro dp un gd cn cs a ccd cl outer A₀ base h₀ L m news s rd dd tl r nt vs ws i dq x Q E B F X N T hk hd hu hS hat hx hst hi hdq hret
  have hS0 := hS
  obtain ⟨hrd, ⟨ua, ud, hdd⟩, hT⟩ := hS
  obtain ⟨hst1, hst2⟩ := hst
  have hne : (x == Str.ofString "->") = false := beq_eq_false_iff_ne.mpr hst2
  refine wpAny_call ?_
  k_dflt (walk_at "enter")
  k_extra "steps"
  rename Fr h₀ L _ _ => F9
  rename News h₀ L _ _ => N9
  exact hret _ _ _ _ F9 N9 (K'.trans (Kept.sub fun q hq => List.mem_cons_of_mem _ hq)) (S'.mono fun q hq => List.mem_cons_of_mem _ hq) (f'.mono fun q hq => List.mem_cons_of_mem _ hq)
theorem form_ok (w : World) (p : Program) (loose : List Str) (mean : ExcName → Option Value) (mg mb : Str → Option Value) (f : Sf) (ex : Nat)
    (IH : Reads1 PySem.Challenge.rw_ui0505_05.row.prog K05 203 144 w p loose mean mg mb f ex 80 (fun x => ((x ≠ Str.ofString "(" ∧ x ≠ Str.ofString "&") ∧ x ≠ Str.ofString "|") ∧ x ≠ Str.ofString "->")) :
    Reads1 PySem.Challenge.rw_ui0505_05.row.prog K05 203 130 w p loose mean mg mb f (ex + 2) 80 (fun x => (((x ≠ Str.ofString "(" ∧ x ≠ Str.ofString "&") ∧ x ≠ Str.ofString "|") ∧ x ≠ Str.ofString "->") ∧ x ≠ Str.ofString "<->") := by
  unfold Reads1
  k_fill
  k_with_none
  k_with "steps" => repeat' (first | (k_unfold; (try dsimp only)) | walk1 | (dsimp only; walk1) | (leave1; walk_say "STEP leave1"; try dsimp only) | k_extra "mine")
  k_with "spliced" => first | refine args_cons ?_ | refine args_nil ⟨Fr.keep (by assumption) _ _ (by assumption), ?_⟩ | (refine args_nil ?_; try simp only [List.cons_append, List.nil_append])
  k_with "call builtin:len cons nil" => (k_here; (with_reducible show wpAny _ _ (call (Value.builtin "len") [Value.ref _]) _ _ _); k_dflt (refine' lenL (by k_asm) (by k_mem) (by first | (with_reducible assumption) | (simp only [List.length_append, List.length_map, List.length_cons, List.length_nil]; with_reducible rfl)) (by omega) ?_))
  k_with "call ref cons nil" => (k_here; k_dflt (refine' call_cls (by k_asm) (by k_asm) (by k_asm) (by k_is) (by k_is) (by k_is) ?_; k_whole; intro x' d' h' F' N' l1 l2; (try k_lt l1); (try k_lt2 l2); (try k_sweep); walk_at "enter"))
  k_with "call builtin:list.append cons nil" => (k_here; (with_reducible show wpAny _ _ (call (Value.builtin "list.append") [Value.ref _, _]) _ _ _); k_dflt (refine' appendL (by k_asm) (by k_asm) (by k_upd) (by ((try simp only [List.length_append, List.length_map, List.length_cons, List.length_nil]); omega)) ?_; k_whole); intro h' F' N'; (try k_sweep))
  k_with "subscriptTail Attribute Name Attribute ref int" => (k_here; (with_reducible show wpAny _ _ (subscriptTail _ _ (Value.ref _) (Value.int _ _)) _ _ _); k_dflt (refine' itemL (by k_asm) (by with_reducible assumption) (by k_mem) (by with_reducible rfl) (by omega) ?_ (by with_unfolding_all rfl); k_whole))
  k_with "subscriptTail Subscript Attribute Attribute Constant ref int" => (k_here; (with_reducible show wpAny _ _ (subscriptTail _ _ (Value.ref _) (Value.int _ _)) _ _ _); k_dflt (refine' itemT (by k_asm) (by k_mem) (by decide) (by decide) (by rfl) (by rfl) ?_ (by with_unfolding_all rfl) (by intro _; with_unfolding_all rfl)))
  k_with "WhlIf" => first | (with_reducible refine WhlIf.no (by with_reducible assumption) ?_) | (with_reducible refine WhlIf.yes (by with_reducible assumption) ?_)
  k_with "exec While Compare cons nil" => (k_here; (with_reducible refine whl_start 100 ?_))
  k_with "call ref nil" => (k_here; (with_reducible show wpAny _ _ (call (Value.ref 102) _) _ _ _); k_dflt (refine' peek_ok _ _ _ _ _ _ _ _ _ _ _ _ _ _ _ _ _ _ _ _ _ _ _ _ _ _ _ _ _ _ _ _ _ _ (by k_asm) (by k_asm) (by k_asm) (by k_asm) (by k_asm) (by first | rfl | assumption) (by first | decide | omega | ktr_room) (by first | decide | omega | ktr_units) (by exact ⟨by k_mem, ⟨_, _, by k_mem⟩, TK.mono (by assumption) (fun q hq => by repeat (first | exact hq | refine List.mem_cons_of_mem _ ?_))⟩) (by first | assumption | rfl) (by omega) ?_; intro h' tk' u' F' N'; (try k_sweep); (try dsimp only)))
  k_with "call ref nil" => (k_here; (with_reducible show wpAny _ _ (call (Value.ref 144) _) _ _ _); (rename Reads1 _ _ _ _ _ _ _ _ _ _ _ _ _ _ => IH9); k_dflt (refine' IH9 _ _ _ _ _ _ _ _ _ _ _ _ _ _ _ _ _ _ _ _ _ _ _ _ _ _ _ _ (by k_asm) (by k_asm) (by k_asm) (by k_asm) (by k_asm) (by first | rfl | assumption) (by first | decide | omega | ktr_room) (by first | decide | omega | ktr_units) (by assumption) (by assumption) (by assumption) (by assumption) (by omega) (by omega) ?_; intro h' tk' v' news' F' N' K' S' f'; (have hrd' := S'.hrd); (obtain ⟨ua', ud', hdd'⟩ := S'.hdd); (have hT' := S'.tk); (try k_sweep); (try dsimp only)))
  intro dp un gd cn cs a ccd cl outer A₀ base h₀ L m news s rd dd tl r nt vs ws i dq x Q E B F X N T hk hd hu hS hat hx hst hi hdq hret
  have hS0 := hS
  obtain ⟨hrd, ⟨ua, ud, hdd⟩, hT⟩ := hS
  obtain ⟨hst1, hst2⟩ := hst
  have hne : (x == Str.ofString "<->") = false := beq_eq_false_iff_ne.mpr hst2
  refine wpAny_call ?_
  k_dflt (walk_at "enter")
  k_extra "steps"
  rename Fr h₀ L _ _ => F9
  rename News h₀ L _ _ => N9
  exact hret _ _ _ _ F9 N9 (by assumption) (by assumption) (by assumption)
theorem finish_ok (w : World) (p : Program) (loose : List Str) (mean : ExcName → Option Value) (mg mb : Str → Option Value) :
    ∀ (dp un : Nat) (gd : Option (List Code)) (cn : Str) (cs : Scope) (a : Addr) (ccd : Value) (cl : List (Str × Addr)) (outer : List Env) (A₀ : Around) (base h₀ : Heap) (L : Addr) (m : Str → Option Value) (news : List (Addr × Obj)) (s : Shared) (rd dd tl : Addr) (r : RT) (nt : Nat) (vs : List Value) (ws : List (Str × Int)) (i : Nat) (dq : Int) (Q E : Value → Shared → Prop),
      Below A₀ base outer h₀ → Fr h₀ L s.heap m → (K05 w.params).In h₀ → News h₀ L s.heap news → Top p loose mean mg mb h₀ → cs.kind = .function → dp + 40 < recursionLimit → un + 320 < cLine →
      RS 203 w news rd dd tl r nt vs ws i dq → wordAt ws i = Str.ofString "" → i ≤ 900 →
      (∀ h' tk', Fr h₀ L h' m → News h₀ L h' news → Q .none { s with heap := h', toks := tk' }) →
      wpAny (model PySem.Challenge.rw_ui0505_05.row.prog w) (ktrTop dp un gd cn cs L a ccd cl outer) (call (.ref 200) [.ref rd]) Q E s := by
  k_fill
  k_with_none
  k_with "steps" => repeat' (first | (k_unfold; (try dsimp only)) | walk1 | (dsimp only; walk1) | (leave1; walk_say "STEP leave1"; try dsimp only) | k_extra "mine")
  k_with "spliced" => first | refine args_cons ?_ | refine args_nil ⟨Fr.keep (by assumption) _ _ (by assumption), ?_⟩ | (refine args_nil ?_; try simp only [List.cons_append, List.nil_append])
  k_with "call builtin:len cons nil" => (k_here; (with_reducible show wpAny _ _ (call (Value.builtin "len") [Value.ref _]) _ _ _); k_dflt (refine' lenL (by k_asm) (by k_mem) (by first | (with_reducible assumption) | (simp only [List.length_append, List.length_map, List.length_cons, List.length_nil]; with_reducible rfl)) (by omega) ?_))
  k_with "call ref cons nil" => (k_here; k_dflt (refine' call_cls (by k_asm) (by k_asm) (by k_asm) (by k_is) (by k_is) (by k_is) ?_; k_whole; intro x' d' h' F' N' l1 l2; (try k_lt l1); (try k_lt2 l2); (try k_sweep); walk_at "enter"))
  k_with "call builtin:list.append cons nil" => (k_here; (with_reducible show wpAny _ _ (call (Value.builtin "list.append") [Value.ref _, _]) _ _ _); k_dflt (refine' appendL (by k_asm) (by k_asm) (by k_upd) (by ((try simp only [List.length_append, List.length_map, List.length_cons, List.length_nil]); omega)) ?_; k_whole); intro h' F' N'; (try k_sweep))
  k_with "subscriptTail Attribute Name Attribute ref int" => (k_here; (with_reducible show wpAny _ _ (subscriptTail _ _ (Value.ref _) (Value.int _ _)) _ _ _); k_dflt (refine' itemL (by k_asm) (by with_reducible assumption) (by k_mem) (by with_reducible rfl) (by omega) ?_ (by with_unfolding_all rfl); k_whole))
  k_with "subscriptTail Subscript Attribute Attribute Constant ref int" => (k_here; (with_reducible show wpAny _ _ (subscriptTail _ _ (Value.ref _) (Value.int _ _)) _ _ _); k_dflt (refine' itemT (by k_asm) (by k_mem) (by decide) (by decide) (by rfl) (by rfl) ?_ (by with_unfolding_all rfl) (by intro _; with_unfolding_all rfl)))
  k_with "WhlIf" => first | (with_reducible refine WhlIf.no (by with_reducible assumption) ?_) | (with_reducible refine WhlIf.yes (by with_reducible assumption) ?_)
  k_with "exec While Compare cons nil" => (k_here; (with_reducible refine whl_start 100 ?_))
  k_with "call ref nil" => (k_here; (with_reducible show wpAny _ _ (call (Value.ref 102) _) _ _ _); k_dflt (refine' peek_ok _ _ _ _ _ _ _ _ _ _ _ _ _ _ _ _ _ _ _ _ _ _ _ _ _ _ _ _ _ _ _ _ _ _ (by k_asm) (by k_asm) (by k_asm) (by k_asm) (by k_asm) (by first | rfl | assumption) (by first | decide | omega | ktr_room) (by first | decide | omega | ktr_units) (by exact ⟨by k_mem, ⟨_, _, by k_mem⟩, TK.mono (by assumption) (fun q hq => by repeat (first | exact hq | refine List.mem_cons_of_mem _ ?_))⟩) (by first | assumption | rfl) (by omega) ?_; intro h' tk' u' F' N'; (try k_sweep); (try dsimp only)))
  intro dp un gd cn cs a ccd cl outer A₀ base h₀ L m news s rd dd tl r nt vs ws i dq Q E B F X N T hk hd hu hS hx hi hret
  obtain ⟨hrd, ⟨ua, ud, hdd⟩, hT⟩ := hS
  refine wpAny_call ?_
  k_dflt (walk_at "enter")
  k_extra "steps"
  rename Fr h₀ L _ _ => F9
  rename News h₀ L _ _ => N9
  exact hret _ _ F9 N9
theorem isl_ok (w : World) (p : Program) (loose : List Str) (mean : ExcName → Option Value) (mg mb : Str → Option Value) (x : Str) (b : Bool) (hx : (x = Str.ofString "P" ∧ b = true) ∨ (x = Str.ofString "~" ∧ b = false) ∨ (x = Str.ofString "-" ∧ b = false) ∨ (x = Str.ofString " " ∧ b = false)) :
    ∀ (dp un : Nat) (gd : Option (List Code)) (cn : Str) (cs : Scope) (a : Addr) (ccd : Value) (cl : List (Str × Addr)) (outer : List Env) (A₀ : Around) (base h₀ : Heap) (L : Addr) (m : Str → Option Value) (news : List (Addr × Obj)) (s : Shared) (t : Tok) (Q E : Value → Shared → Prop),
      Below A₀ base outer h₀ → Fr h₀ L s.heap m → (K05 w.params).In h₀ → News h₀ L s.heap news → Top p loose mean mg mb h₀ → cs.kind = .function → dp + 20 < recursionLimit → un + 160 < cLine →
      (∀ h' tk', Fr h₀ L h' m → News h₀ L h' news → Q (.bool b) { s with heap := h', toks := tk' }) →
      wpAny (model PySem.Challenge.rw_ui0505_05.row.prog w) (ktrTop dp un gd cn cs L a ccd cl outer) (call (.ref 60) [.str x t]) Q E s := by
  k_fill
  k_with_none
  k_with "steps" => repeat' (first | (k_unfold; (try dsimp only)) | walk1 | (dsimp only; walk1) | (leave1; walk_say "STEP leave1"; try dsimp only) | k_extra "mine")
  k_with "spliced" => first | refine args_cons ?_ | refine args_nil ⟨Fr.keep (by assumption) _ _ (by assumption), ?_⟩ | (refine args_nil ?_; try simp only [List.cons_append, List.nil_append])
  k_with "call builtin:len cons nil" => (k_here; (with_reducible show wpAny _ _ (call (Value.builtin "len") [Value.ref _]) _ _ _); k_dflt (refine' lenL (by k_asm) (by k_mem) (by first | (with_reducible assumption) | (simp only [List.length_append, List.length_map, List.length_cons, List.length_nil]; with_reducible rfl)) (by omega) ?_))
  k_with "call ref cons nil" => (k_here; k_dflt (refine' call_cls (by k_asm) (by k_asm) (by k_asm) (by k_is) (by k_is) (by k_is) ?_; k_whole; intro x' d' h' F' N' l1 l2; (try k_lt l1); (try k_lt2 l2); (try k_sweep); walk_at "enter"))
  k_with "call builtin:list.append cons nil" => (k_here; (with_reducible show wpAny _ _ (call (Value.builtin "list.append") [Value.ref _, _]) _ _ _); k_dflt (refine' appendL (by k_asm) (by k_asm) (by k_upd) (by ((try simp only [List.length_append, List.length_map, List.length_cons, List.length_nil]); omega)) ?_; k_whole); intro h' F' N'; (try k_sweep))
  k_with "subscriptTail Attribute Name Attribute ref int" => (k_here; (with_reducible show wpAny _ _ (subscriptTail _ _ (Value.ref _) (Value.int _ _)) _ _ _); k_dflt (refine' itemL (by k_asm) (by with_reducible assumption) (by k_mem) (by with_reducible rfl) (by omega) ?_ (by with_unfolding_all rfl); k_whole))
  k_with "subscriptTail Subscript Attribute Attribute Constant ref int" => (k_here; (with_reducible show wpAny _ _ (subscriptTail _ _ (Value.ref _) (Value.int _ _)) _ _ _); k_dflt (refine' itemT (by k_asm) (by k_mem) (by decide) (by decide) (by rfl) (by rfl) ?_ (by with_unfolding_all rfl) (by intro _; with_unfolding_all rfl)))
  k_with "WhlIf" => first | (with_reducible refine WhlIf.no (by with_reducible assumption) ?_) | (with_reducible refine WhlIf.yes (by with_reducible assumption) ?_)
  k_with "exec While Compare cons nil" => (k_here; (with_reducible refine whl_start 100 ?_))
  intro dp un gd cn cs a ccd cl outer A₀ base h₀ L m news s t Q E B F X N T hk hd hu hret
  rcases hx with ⟨rfl, rfl⟩ | ⟨rfl, rfl⟩ | ⟨rfl, rfl⟩ | ⟨rfl, rfl⟩
  all_goals (
    refine wpAny_call ?_
    k_dflt (walk_at "enter")
    k_extra "steps"
    rename Fr h₀ L _ _ => F9
    rename News h₀ L _ _ => N9
    exact hret _ _ F9 N9)
theorem isr_ok (w : World) (p : Program) (loose : List Str) (mean : ExcName → Option Value) (mg mb : Str → Option Value) :
    ∀ (dp un : Nat) (gd : Option (List Code)) (cn : Str) (cs : Scope) (a : Addr) (ccd : Value) (cl : List (Str × Addr)) (outer : List Env) (A₀ : Around) (base h₀ : Heap) (L : Addr) (m : Str → Option Value) (news : List (Addr × Obj)) (s : Shared) (t : Tok) (Q E : Value → Shared → Prop),
      Below A₀ base outer h₀ → Fr h₀ L s.heap m → (K05 w.params).In h₀ → News h₀ L s.heap news → Top p loose mean mg mb h₀ → cs.kind = .function → dp + 40 < recursionLimit → un + 320 < cLine →
      (∀ h' tk', Fr h₀ L h' m → News h₀ L h' news → Q (.bool false) { s with heap := h', toks := tk' }) →
      wpAny (model PySem.Challenge.rw_ui0505_05.row.prog w) (ktrTop dp un gd cn cs L a ccd cl outer) (call (.ref 67) [.str (Str.ofString " ") t]) Q E s := by
  k_fill
  k_with_none
  k_with "steps" => repeat' (first | (k_unfold; (try dsimp only)) | walk1 | (dsimp only; walk1) | (leave1; walk_say "STEP leave1"; try dsimp only) | k_extra "mine")
  k_with "spliced" => first | refine args_cons ?_ | refine args_nil ⟨Fr.keep (by assumption) _ _ (by assumption), ?_⟩ | (refine args_nil ?_; try simp only [List.cons_append, List.nil_append])
  k_with "call builtin:len cons nil" => (k_here; (with_reducible show wpAny _ _ (call (Value.builtin "len") [Value.ref _]) _ _ _); k_dflt (refine' lenL (by k_asm) (by k_mem) (by first | (with_reducible assumption) | (simp only [List.length_append, List.length_map, List.length_cons, List.length_nil]; with_reducible rfl)) (by omega) ?_))
  k_with "call ref cons nil" => (k_here; k_dflt (refine' call_cls (by k_asm) (by k_asm) (by k_asm) (by k_is) (by k_is) (by k_is) ?_; k_whole; intro x' d' h' F' N' l1 l2; (try k_lt l1); (try k_lt2 l2); (try k_sweep); walk_at "enter"))
  k_with "call builtin:list.append cons nil" => (k_here; (with_reducible show wpAny _ _ (call (Value.builtin "list.append") [Value.ref _, _]) _ _ _); k_dflt (refine' appendL (by k_asm) (by k_asm) (by k_upd) (by ((try simp only [List.length_append, List.length_map, List.length_cons, List.length_nil]); omega)) ?_; k_whole); intro h' F' N'; (try k_sweep))
  k_with "subscriptTail Attribute Name Attribute ref int" => (k_here; (with_reducible show wpAny _ _ (subscriptTail _ _ (Value.ref _) (Value.int _ _)) _ _ _); k_dflt (refine' itemL (by k_asm) (by with_reducible assumption) (by k_mem) (by with_reducible rfl) (by omega) ?_ (by with_unfolding_all rfl); k_whole))
  k_with "subscriptTail Subscript Attribute Attribute Constant ref int" => (k_here; (with_reducible show wpAny _ _ (subscriptTail _ _ (Value.ref _) (Value.int _ _)) _ _ _); k_dflt (refine' itemT (by k_asm) (by k_mem) (by decide) (by decide) (by rfl) (by rfl) ?_ (by with_unfolding_all rfl) (by intro _; with_unfolding_all rfl)))
  k_with "WhlIf" => first | (with_reducible refine WhlIf.no (by with_reducible assumption) ?_) | (with_reducible refine WhlIf.yes (by with_reducible assumption) ?_)
  k_with "exec While Compare cons nil" => (k_here; (with_reducible refine whl_start 100 ?_))
  k_with "call ref cons nil" => (k_here; (with_reducible show wpAny _ _ (call (Value.ref 60) _) _ _ _); k_dflt (refine' isl_ok _ _ _ _ _ _ _ _ (by first | exact .inl ⟨rfl, rfl⟩ | exact .inr (.inl ⟨rfl, rfl⟩) | exact .inr (.inr (.inl ⟨rfl, rfl⟩)) | exact .inr (.inr (.inr ⟨rfl, rfl⟩))) _ _ _ _ _ _ _ _ _ _ _ _ _ _ _ _ _ _ _ (by k_asm) (by k_asm) (by k_asm) (by k_asm) (by k_asm) (by first | rfl | assumption) (by first | decide | omega | ktr_room) (by first | decide | omega | ktr_units) ?_; intro h' tk' F' N'; (try k_sweep); (try dsimp only)))
  intro dp un gd cn cs a ccd cl outer A₀ base h₀ L m news s t Q E B F X N T hk hd hu hret
  refine wpAny_call ?_
  k_dflt (walk_at "enter")
  k_extra "steps"
  rename Fr h₀ L _ _ => F9
  rename News h₀ L _ _ => N9
  exact hret _ _ F9 N9
theorem toks_ok (w : World) (p : Program) (loose : List Str) (mean : ExcName → Option Value) (mg mb : Str → Option Value) :
    ∀ (dp un : Nat) (gd : Option (List Code)) (cn : Str) (cs : Scope) (a : Addr) (ccd : Value) (cl : List (Str × Addr)) (outer : List Env) (A₀ : Around) (base h₀ : Heap) (L : Addr) (m : Str → Option Value) (news : List (Addr × Obj)) (s : Shared) (x : Str) (t : Tok) (ws : List (Str × Int)) (Q E : Value → Shared → Prop),
      Below A₀ base outer h₀ → Fr h₀ L s.heap m → (K05 w.params).In h₀ → News h₀ L s.heap news → Top p loose mean mg mb h₀ → cs.kind = .function → dp + 60 < recursionLimit → un + 500 < cLine →
      Lex x 0 ws → x.length ≤ 900 → ws.length ≤ 900 →
      (∀ h' tk' tl nt vs news', Fr h₀ L h' m → News h₀ L h' news' → (∀ q ∈ news, q ∈ news') → TK news' tl nt vs ws → Q (.ref tl) { s with heap := h', toks := tk' }) →
      wpAny (model PySem.Challenge.rw_ui0505_05.row.prog w) (ktrTop dp un gd cn cs L a ccd cl outer) (call (.ref 74) [.str x t]) Q E s := by
  k_fill
  k_with_none
  k_with "steps" => repeat' (first | (k_unfold; (try dsimp only)) | walk1 | (dsimp only; walk1) | (leave1; walk_say "STEP leave1"; try dsimp only) | k_extra "mine")
  k_with "spliced" => first | refine args_cons ?_ | refine args_nil ⟨Fr.keep (by assumption) _ _ (by assumption), ?_⟩ | (refine args_nil ?_; try simp only [List.cons_append, List.nil_append])
  k_with "call builtin:len cons nil" => (k_here; (with_reducible show wpAny _ _ (call (Value.builtin "len") [Value.ref _]) _ _ _); k_dflt (refine' lenL (by k_asm) (by k_mem) (by first | (with_reducible assumption) | (simp only [List.length_append, List.length_map, List.length_cons, List.length_nil]; with_reducible rfl)) (by omega) ?_))
  k_with "call ref cons nil" => (k_here; k_dflt (refine' call_cls (by k_asm) (by k_asm) (by k_asm) (by k_is) (by k_is) (by k_is) ?_; k_whole; intro x' d' h' F' N' l1 l2; (try k_lt l1); (try k_lt2 l2); (try k_sweep); walk_at "enter"))
  k_with "call builtin:list.append cons nil" => (k_here; (with_reducible show wpAny _ _ (call (Value.builtin "list.append") [Value.ref _, _]) _ _ _); k_dflt (refine' appendL (by k_asm) (by k_asm) (by k_upd) (by ((try simp only [List.length_append, List.length_map, List.length_cons, List.length_nil]); omega)) ?_; k_whole); intro h' F' N'; (try k_sweep))
  k_with "subscriptTail Attribute Name Attribute ref int" => (k_here; (with_reducible show wpAny _ _ (subscriptTail _ _ (Value.ref _) (Value.int _ _)) _ _ _); k_dflt (refine' itemL (by k_asm) (by with_reducible assumption) (by k_mem) (by with_reducible rfl) (by omega) ?_ (by with_unfolding_all rfl); k_whole))
  k_with "subscriptTail Subscript Attribute Attribute Constant ref int" => (k_here; (with_reducible show wpAny _ _ (subscriptTail _ _ (Value.ref _) (Value.int _ _)) _ _ _); k_dflt (refine' itemT (by k_asm) (by k_mem) (by decide) (by decide) (by rfl) (by rfl) ?_ (by with_unfolding_all rfl) (by intro _; with_unfolding_all rfl)))
  k_with "WhlIf" => first | (with_reducible refine WhlIf.no (by with_reducible assumption) ?_) | (with_reducible refine WhlIf.yes (by with_reducible assumption) ?_)
  k_with "exec While Compare cons nil" => (k_here; (with_reducible refine whl_start 100 ?_))
  k_with "exec While Compare cons nil" => (k_here; with_reducible refine halt ?_)
  k_with "exec While BoolOp cons nil" => (k_here; (with_reducible refine whl_start 100 ?_))
  k_with "subscriptTail Name Name str int" => (k_here; (with_reducible show wpAny _ _ (subscriptTail _ _ (Value.str _ _) (Value.int _ _)) _ _ _); k_dflt (refine' signAt (by with_reducible assumption) ?_ (by with_unfolding_all rfl) (by intro _; with_unfolding_all rfl); k_whole))
  k_with "call ref cons nil" => (k_here; (with_reducible show wpAny _ _ (call (Value.ref 60) _) _ _ _); k_dflt (refine' isl_ok _ _ _ _ _ _ _ _ (by first | exact .inl ⟨rfl, rfl⟩ | exact .inr (.inl ⟨rfl, rfl⟩) | exact .inr (.inr (.inl ⟨rfl, rfl⟩)) | exact .inr (.inr (.inr ⟨rfl, rfl⟩))) _ _ _ _ _ _ _ _ _ _ _ _ _ _ _ _ _ _ _ (by k_asm) (by k_asm) (by k_asm) (by k_asm) (by k_asm) (by first | rfl | assumption) (by first | decide | omega | ktr_room) (by first | decide | omega | ktr_units) ?_; intro h' tk' F' N'; (try k_sweep); (try dsimp only)))
  k_with "call ref cons nil" => (k_here; (with_reducible show wpAny _ _ (call (Value.ref 67) _) _ _ _); k_dflt (refine' isr_ok _ _ _ _ _ _ _ _ _ _ _ _ _ _ _ _ _ _ _ _ _ _ _ _ _ (by k_asm) (by k_asm) (by k_asm) (by k_asm) (by k_asm) (by first | rfl | assumption) (by first | decide | omega | ktr_room) (by first | decide | omega | ktr_units) ?_; intro h' tk' F' N'; (try k_sweep); (try dsimp only)))
  k_with "pyIter ref" => (k_here; with_reducible refine halt ?_)
  k_with "call builtin:str.startswith cons cons nil" => (k_here; k_dflt (refine' startsAt (by with_reducible assumption) ?_; k_whole))
  k_with "exec For Name Name cons nil" => (k_here; (rename Fr _ _ _ _ => lF'); (with_unfolding_all refine' For_invVF lF' (by exact rfl) (by exact rfl) ?_ (by exact fun _ => rfl) (by first | passes_own | with_unfolding_all passes_own)); k_whole)
  intro dp un gd cn cs a ccd cl outer A₀ base h₀ L m news s x t ws Q E B F X N T hk hd hu hlex hxl hwl hret
  refine wpAny_call ?_
  k_dflt (walk_at "enter")
  k_extra "steps"
  rename News _ _ _ _ => N1
  rename Fr _ _ _ _ => F1
  rename AllLt _ _ => l1
  refine whl_start 100 ?_
  refine while_by (TInv _ _ _ x t ws news s) (by first | passes_own | with_unfolding_all passes_own) ?turn 100 x.length _ ⟨_, _, [], 0, 0, news, _, [], ws, rfl, F1, ⟨_, rfl⟩, rfl, rfl, N1, allLt_ne l1, fun q hq => hq, hlex, ⟨rfl, fun i y hy => by simp at hy⟩, rfl, by omega⟩
  case turn =>
    clear F1 N1 l1
    rintro n s' ⟨h, tk, vs, nt, i, rest, mm, d, ws', rfl, F2, ⟨ti, hmi⟩, hmo, hmt, N2, ad, hsub, hl2, hT2, hws, hn⟩
    replace F2 := frc F2 (upm3 hmi hmo hmt)
    clear hmi hmo hmt
    have hdl : d.length ≤ ws.length := by rw [hws, List.length_append]; omega
    have hvl := hT2.hlen
    cases hl2 with
    | done hi =>
      have hcut : decide ((i : Int) < (x.length : Int)) = false := decide_eq_false (by omega)
      k_extra "steps"
      rename Fr h₀ L _ _ => F9
      rename News h₀ L _ _ => N9
      rw [List.append_nil] at hws
      subst hws
      exact hret _ _ _ nt vs _ F9 N9 (fun q hq => List.mem_cons_of_mem _ (hsub q hq)) ⟨List.mem_cons_self, hT2.hlen, by omega, fun i x hx => let ⟨a, t, u, n, q1, q2⟩ := hT2.htk i x hx; ⟨a, t, u, n, q1, List.mem_cons_of_mem _ q2⟩⟩
    | space h1 h2 =>
      have hlt := h1.lt
      have hs1 : SignI x (i : Int) _ := ⟨by omega, by omega, h1⟩
      have hcut : decide ((i : Int) < (x.length : Int)) = true := decide_eq_true (by omega)
      k_extra "steps"
      rename Fr _ _ _ _ => F9
      rename News _ _ _ _ => N9
      exact ⟨n - 1, by omega, _, _, vs, nt, i + 1, rest, _, d, ws', rfl, F9, ⟨_, rfl⟩, rfl, rfl, N9, ad, hsub, h2, hT2, hws, by omega⟩
    | word h1 h2 h3 =>
      have hlt := h1.lt
      have hs1 : SignI x (i : Int) _ := ⟨by omega, by omega, h1⟩
      have hcut : decide ((i : Int) < (x.length : Int)) = true := decide_eq_true (by omega)
      rcases h2 with h2 | h2
      · have hcut2 : decide ((i : Int) + 1 < (x.length : Int)) = false := decide_eq_false (by omega)
        k_extra "steps"
        rename Fr _ _ _ _ => F9
        rename News _ _ _ _ => N9
        rw [slice1 hs1] at N9
        exact TInv.add (nd := 0) (j := i + 1) F9 N9 rfl ⟨_, rfl⟩ rfl rfl ad hsub h3 hT2 hws hn (by omega) (by omega)
      · have hlt2 := h2.lt
        have hs2 : SignI x ((i : Int) + 1) _ := ⟨by omega, by omega, h2⟩
        have hcut2 : decide ((i : Int) + 1 < (x.length : Int)) = true := decide_eq_true (by omega)
        k_extra "steps"
        rename Fr _ _ _ _ => F9
        rename News _ _ _ _ => N9
        rw [slice1 hs1] at N9
        exact TInv.add (nd := 0) (j := i + 1) F9 N9 rfl ⟨_, rfl⟩ rfl rfl ad hsub h3 hT2 hws hn (by omega) (by omega)
    | tilde h1 h2 =>
      have hlt := h1.lt
      have hs1 : SignI x (i : Int) _ := ⟨by omega, by omega, h1⟩
      have hcut : decide ((i : Int) < (x.length : Int)) = true := decide_eq_true (by omega)
      obtain ⟨st1, st2, st3⟩ := starts_tilde h1
      k_extra "steps"
      rename Fr _ _ _ _ => F3
      rename News _ _ _ _ => N3
      rename Frag.In _ _ => X3
      have hL := inList (l := 53) X3 (by k_is) rfl
      unfold Halt
      refine' brk_loop 2 ?b1 hL ?b2 ?b3 ?b4 ?tt ?ll
      case b1 => exact rfl
      case b2 => decide
      case b3 => exact F3
      case b4 => exact N3
      case tt =>
        clear F3 N3
        intro i' v' h tk news' hi' hv' F3 N3 hs3
        have hi2 : i' = 0 ∨ i' = 1 := by omega
        rcases hi2 with rfl | rfl
        all_goals (
          cases hv'
          k_extra "steps"
          rename Fr _ _ _ _ => F9
          rename News _ _ _ _ => N9
          exact ⟨rfl, _, _, _, rfl, F9, N9⟩)
      case ll =>
        clear F3 N3
        intro v' h tk hv' F3 N3
        cases hv'
        k_extra "steps"
        refine ⟨rfl, ?_⟩
        k_extra "steps"
        rename Fr _ _ _ _ => F9
        rename News _ _ _ _ => N9
        exact TInv.add (nd := 0) (j := i + 1) F9 N9 rfl ⟨_, rfl⟩ rfl rfl ad hsub h2 hT2 hws hn (by omega) (by omega)
    | arrow h1 h2 h3 =>
      have hlt := h1.lt
      have hs1 : SignI x (i : Int) _ := ⟨by omega, by omega, h1⟩
      have hcut : decide ((i : Int) < (x.length : Int)) = true := decide_eq_true (by omega)
      have hlt2 := h2.lt
      obtain ⟨st1, st2⟩ := starts_arrow h1 h2
      k_extra "steps"
      rename Fr _ _ _ _ => F3
      rename News _ _ _ _ => N3
      rename Frag.In _ _ => X3
      have hL := inList (l := 53) X3 (by k_is) rfl
      unfold Halt
      refine' brk_loop 1 ?b1 hL ?b2 ?b3 ?b4 ?tt ?ll
      case b1 => exact rfl
      case b2 => decide
      case b3 => exact F3
      case b4 => exact N3
      case tt =>
        clear F3 N3
        intro i' v' h tk news' hi' hv' F3 N3 hs3
        have hi2 : i' = 0 := by omega
        subst hi2
        cases hv'
        k_extra "steps"
        rename Fr _ _ _ _ => F9
        rename News _ _ _ _ => N9
        exact ⟨rfl, _, _, _, rfl, F9, N9⟩
      case ll =>
        clear F3 N3
        intro v' h tk hv' F3 N3
        cases hv'
        k_extra "steps"
        refine ⟨rfl, ?_⟩
        k_extra "steps"
        rename Fr _ _ _ _ => F9
        rename News _ _ _ _ => N9
        exact TInv.add (nd := 0) (j := i + 2) F9 N9 rfl ⟨_, rfl⟩ rfl rfl ad hsub h3 hT2 hws hn (by omega) (by omega)
/-- the reader is made -/
theorem rinit_ok (w : World) (p : Program) (loose : List Str) (mean : ExcName → Option Value) (mg mb : Str → Option Value) :
    ∀ (dp un : Nat) (gd : Option (List Code)) (cn : Str) (cs : Scope) (a : Addr) (ccd : Value) (cl : List (Str × Addr)) (outer : List Env) (A₀ : Around) (base h₀ : Heap) (L : Addr) (m : Str → Option Value) (news : List (Addr × Obj)) (s : Shared) (x : Str) (t : Tok) (ws : List (Str × Int)) (Q E : Value → Shared → Prop),
      Below A₀ base outer h₀ → Fr h₀ L s.heap m → (K05 w.params).In h₀ → News h₀ L s.heap news → Top p loose mean mg mb h₀ → cs.kind = .function → dp + 80 < recursionLimit → un + 700 < cLine →
      Lex x 0 ws → x.length ≤ 900 → ws.length ≤ 900 →
      (∀ h' tk' rd dd tl r nt vs news', Fr h₀ L h' m → News h₀ L h' news' → (∀ q ∈ news, q ∈ news') → RS 203 w news' rd dd tl r nt vs ws 0 0 → r.en = (x.length : Int) → Q (.ref rd) { s with heap := h', toks := tk' }) →
      wpAny (model PySem.Challenge.rw_ui0505_05.row.prog w) (ktrTop dp un gd cn cs L a ccd cl outer) (call (.ref 203) [.str x t]) Q E s := by
  k_fill
  k_with_none
  k_with "steps" => repeat' (first | (k_unfold; (try dsimp only)) | walk1 | (dsimp only; walk1) | (leave1; walk_say "STEP leave1"; try dsimp only) | k_extra "mine")
  k_with "spliced" => first | refine args_cons ?_ | refine args_nil ⟨Fr.keep (by assumption) _ _ (by assumption), ?_⟩ | (refine args_nil ?_; try simp only [List.cons_append, List.nil_append])
  k_with "call builtin:len cons nil" => (k_here; (with_reducible show wpAny _ _ (call (Value.builtin "len") [Value.ref _]) _ _ _); k_dflt (refine' lenL (by k_asm) (by k_mem) (by first | (with_reducible assumption) | (simp only [List.length_append, List.length_map, List.length_cons, List.length_nil]; with_reducible rfl)) (by omega) ?_))
  k_with "call ref cons nil" => (k_here; k_dflt (refine' call_cls (by k_asm) (by k_asm) (by k_asm) (by k_is) (by k_is) (by k_is) ?_; k_whole; intro x' d' h' F' N' l1 l2; (try k_lt l1); (try k_lt2 l2); (try k_sweep); walk_at "enter"))
  k_with "call builtin:list.append cons nil" => (k_here; (with_reducible show wpAny _ _ (call (Value.builtin "list.append") [Value.ref _, _]) _ _ _); k_dflt (refine' appendL (by k_asm) (by k_asm) (by k_upd) (by ((try simp only [List.length_append, List.length_map, List.length_cons, List.length_nil]); omega)) ?_; k_whole); intro h' F' N'; (try k_sweep))
  k_with "subscriptTail Attribute Name Attribute ref int" => (k_here; (with_reducible show wpAny _ _ (subscriptTail _ _ (Value.ref _) (Value.int _ _)) _ _ _); k_dflt (refine' itemL (by k_asm) (by with_reducible assumption) (by k_mem) (by with_reducible rfl) (by omega) ?_ (by with_unfolding_all rfl); k_whole))
  k_with "subscriptTail Subscript Attribute Attribute Constant ref int" => (k_here; (with_reducible show wpAny _ _ (subscriptTail _ _ (Value.ref _) (Value.int _ _)) _ _ _); k_dflt (refine' itemT (by k_asm) (by k_mem) (by decide) (by decide) (by rfl) (by rfl) ?_ (by with_unfolding_all rfl) (by intro _; with_unfolding_all rfl)))
  k_with "WhlIf" => first | (with_reducible refine WhlIf.no (by with_reducible assumption) ?_) | (with_reducible refine WhlIf.yes (by with_reducible assumption) ?_)
  k_with "exec While Compare cons nil" => (k_here; (with_reducible refine whl_start 100 ?_))
  k_with "call ref cons nil" => (k_here; (with_reducible show wpAny _ _ (call (Value.ref 74) _) _ _ _); k_dflt (refine' toks_ok _ _ _ _ _ _ _ _ _ _ _ _ _ _ _ _ _ _ _ _ _ _ _ _ _ _ _ (by k_asm) (by k_asm) (by k_asm) (by k_asm) (by k_asm) (by first | rfl | assumption) (by first | decide | omega | ktr_room) (by first | decide | omega | ktr_units | (show un + 1 + 3 + 500 < cLine; omega) | (show un + 2 + 3 + 500 < cLine; omega) | (show un + 0 + 3 + 500 < cLine; omega) | (show un + 3 + 3 + 500 < cLine; omega)) (by assumption) (by assumption) (by assumption) ?_; intro h' tk' tl' nt' vs' news' F' N' K' T'; (have hrd' := K' (x', instObj 203 d') List.mem_cons_self); (have hdd' := K' (d', dictOf [] 0) (List.mem_cons_of_mem _ List.mem_cons_self)); (have N1' := RS.front N' hdd'); (have hT1' := T'.off N' hdd' rfl); (have nr' : @Ne Nat x' d' := nne Obj.cls N' hrd' hdd' (fun e => by cases e)); (have hr1' := mem_off.mpr (And.intro hrd' nr')); (have ad' := @off_ne d' news'); (have hk1' : ∀ q ∈ news, q ∈ off d' news' := fun q hq => mem_off.mpr ⟨K' q (List.mem_cons_of_mem _ (List.mem_cons_of_mem _ hq)), allLt_ne l1 q hq⟩); (generalize off d' news' = rest' at N1' hT1' hr1' ad' hk1'); (clear N' hrd' hdd' T' K'); (try k_sweep); (try dsimp only)))
  intro dp un gd cn cs a ccd cl outer A₀ base h₀ L m news s x t ws Q E B F X N T hk hd hu hlex hxl hwl hret
  k_extra "steps"
  rename Fr h₀ L _ _ => F9
  rename News h₀ L _ _ => N9
  exact hret _ _ x' d' tl' ⟨_, _, _, _, _, _⟩ nt' vs' _ F9 N9 (fun q hq => List.mem_cons_of_mem _ (hk1' q hq)) ⟨List.mem_cons_of_mem _ hr1', ⟨_, _, List.mem_cons_self⟩, hT1'.mono fun q hq => List.mem_cons_of_mem _ hq⟩ rfl
theorem JInv.add {C : Addr} {w : World} {h₀ : Heap} {L o rd dd tl : Addr} {r : RT} {nt nu nd : Nat} {vs us3 : List Value} {u3 v : Value} {ws : List (Str × Int)} {i : Nat} {dq : Int} {n k2 tk : Nat} {news rest : List (Addr × Obj)} {s : Shared} {h : Heap} {m : Str → Option Value} {D : Addr} {tt : Obj} {t1 : Tok}
    (F : Fr h₀ L h m) (N : News h₀ L h ((D, tt) :: (o, listOf us3.toArray nu) :: rest)) (ht : tt = tupO [.str (Str.ofString "implies") t1, u3, v] nd) (hm1 : m (Str.ofString "rows") = some (.ref o)) (hm2 : m (Str.ofString "out") = some (.ref D))
    (ad : ∀ q ∈ rest, q.1 ≠ o) (K2 : Kept dd news rest) (S2 : RS C w rest rd dd tl r nt vs ws i dq) (hl : us3.length + 1 = k2) (hfi : ∀ v ∈ us3 ++ [u3], FIs rest v .atom) (hk2 : k2 ≤ n) (hfv : FIs rest v (chain (n - k2))) :
    ∃ m', m' < k2 ∧ JInv C w h₀ L o rd dd tl r nt vs ws i dq n news s m' { s with heap := h, toks := tk } := by
  subst ht
  refine ⟨us3.length, by omega, h, tk, us3, nu, (D, tupO [.str (Str.ofString "implies") t1, u3, v] nd) :: rest, m, .ref D, rfl, F, hm1, hm2, nsub N (fun q hq => ?_), ?_, K2.trans (Kept.sub fun q hq => List.mem_cons_of_mem _ hq), S2.mono fun q hq => List.mem_cons_of_mem _ hq, rfl, fun v hv => (hfi v (List.mem_append_left _ hv)).mono fun q hq => List.mem_cons_of_mem _ hq, by omega, ?_⟩
  · rcases List.mem_cons.mp hq with rfl | hq
    · exact List.mem_cons_of_mem _ List.mem_cons_self
    · rcases List.mem_cons.mp hq with rfl | hq
      · exact List.mem_cons_self
      · exact List.mem_cons_of_mem _ (List.mem_cons_of_mem _ hq)
  · intro q hq
    rcases List.mem_cons.mp hq with rfl | hq
    · exact nne Obj.cls N List.mem_cons_self (List.mem_cons_of_mem _ List.mem_cons_self) (by show Value.type "tuple" ≠ Value.type "list"; decide)
    · exact ad q hq
  · rw [show n - us3.length = (n - k2) + 1 by omega]
    exact .imp List.mem_cons_self ((hfi u3 (by simp)).mono fun q hq => List.mem_cons_of_mem _ hq) (hfv.mono fun q hq => List.mem_cons_of_mem _ hq)
theorem impn_both (w : World) (p : Program) (loose : List Str) (mean : ExcName → Option Value) (mg mb : Str → Option Value) (n : Nat) (ex : Nat)
    (IH : Reads1 PySem.Challenge.rw_ui0505_05.row.prog K05 203 151 w p loose mean mg mb .atom ex 80 (fun x => (x ≠ Str.ofString "(" ∧ x ≠ Str.ofString "&") ∧ x ≠ Str.ofString "|")) :
    ∀ (dp un : Nat) (gd : Option (List Code)) (cn : Str) (cs : Scope) (a : Addr) (ccd : Value) (cl : List (Str × Addr)) (outer : List Env) (A₀ : Around) (base h₀ : Heap) (L : Addr) (m : Str → Option Value) (news : List (Addr × Obj)) (s : Shared) (rd dd tl : Addr) (r : RT) (nt : Nat) (vs : List Value) (ws : List (Str × Int)) (i : Nat) (dq : Nat) (x : Str) (Q E : Value → Shared → Prop),
      Below A₀ base outer h₀ → Fr h₀ L s.heap m → (K05 w.params).In h₀ → News h₀ L s.heap news → Top p loose mean mg mb h₀ → cs.kind = .function → dp + ex + 63 < recursionLimit → un + 3 * ex + 710 < cLine →
      RS 203 w news rd dd tl r nt vs ws i (dq : Int) → At ws i (chain n).words → wordAt ws (i + 2 * n + 1) = x → (((x ≠ Str.ofString "(" ∧ x ≠ Str.ofString "&") ∧ x ≠ Str.ofString "|") ∧ x ≠ Str.ofString "->") → i + 2 * n + 1 ≤ 800 → dq + 1 ≤ 80 →
      (80 ≤ n → (∀ y ∈ ws, 0 ≤ y.2 ∧ y.2 ≤ 1000) ∧ 0 ≤ r.en ∧ r.en ≤ 1000) →
      (n ≤ 79 → ∀ h' tk' v news', Fr h₀ L h' m → News h₀ L h' news' → Kept dd news news' → RS 203 w news' rd dd tl r nt vs ws (i + 2 * n + 1) (dq : Int) → FIs news' v (chain n) → Q v { s with heap := h', toks := tk' }) →
      (80 ≤ n → ∀ h' tk' e g, Flies base (envX cn cs L a ccd cl :: outer) e 44 h' → Fr h₀ L g m → g.UpToSlots h' → E (.ref e) { s with heap := h', toks := tk' }) →
      wpAny (model PySem.Challenge.rw_ui0505_05.row.prog w) (ktrTop dp un gd cn cs L a ccd cl outer) (call (.ref 144) [.ref rd]) Q E s := by
  k_fill
  k_with_none
  k_with "steps" => repeat' (first | (k_unfold; (try dsimp only)) | walk1 | (dsimp only; walk1) | (leave1; walk_say "STEP leave1"; try dsimp only) | k_extra "mine")
  k_with "spliced" => first | refine args_cons ?_ | refine args_nil ⟨Fr.keep (by assumption) _ _ (by assumption), ?_⟩ | (refine args_nil ?_; try simp only [List.cons_append, List.nil_append])
  k_with "call builtin:len cons nil" => (k_here; (with_reducible show wpAny _ _ (call (Value.builtin "len") [Value.ref _]) _ _ _); k_dflt (refine' lenL (by k_asm) (by k_mem) (by first | (with_reducible assumption) | (simp only [List.length_append, List.length_map, List.length_cons, List.length_nil]; with_reducible rfl)) (by omega) ?_))
  k_with "call ref cons nil" => (k_here; k_dflt (refine' call_cls (by k_asm) (by k_asm) (by k_asm) (by k_is) (by k_is) (by k_is) ?_; k_whole; intro x' d' h' F' N' l1 l2; (try k_lt l1); (try k_lt2 l2); (try k_sweep); walk_at "enter"))
  k_with "call builtin:list.append cons nil" => (k_here; (with_reducible show wpAny _ _ (call (Value.builtin "list.append") [Value.ref _, _]) _ _ _); k_dflt (refine' appendL (by k_asm) (by k_asm) (by k_upd) (by ((try simp only [List.length_append, List.length_map, List.length_cons, List.length_nil]); omega)) ?_; k_whole); intro h' F' N'; (try k_sweep))
  k_with "subscriptTail Attribute Name Attribute ref int" => (k_here; (with_reducible show wpAny _ _ (subscriptTail _ _ (Value.ref _) (Value.int _ _)) _ _ _); k_dflt (refine' itemL (by k_asm) (by with_reducible assumption) (by k_mem) (by with_reducible rfl) (by omega) ?_ (by with_unfolding_all rfl); k_whole))
  k_with "subscriptTail Subscript Attribute Attribute Constant ref int" => (k_here; (with_reducible show wpAny _ _ (subscriptTail _ _ (Value.ref _) (Value.int _ _)) _ _ _); k_dflt (refine' itemT (by k_asm) (by k_mem) (by decide) (by decide) (by rfl) (by rfl) ?_ (by with_unfolding_all rfl) (by intro _; with_unfolding_all rfl)))
  k_with "WhlIf" => first | (with_reducible refine WhlIf.no (by with_reducible assumption) ?_) | (with_reducible refine WhlIf.yes (by with_reducible assumption) ?_)
  k_with "exec While Compare cons nil" => (k_here; (with_reducible refine whl_start 100 ?_))
  k_with "exec While Compare cons nil" => (k_here; with_reducible refine halt ?_)
  k_with "call builtin:list.pop cons nil" => (k_here; (with_reducible show wpAny _ _ (call (Value.builtin "list.pop") [Value.ref _]) _ _ _); k_dflt (refine' popL (by k_asm) (by k_asm) (by k_upd) (by omega) ?_; k_whole); intro h' F' N'; (try k_sweep))
  k_with "call ref nil" => (k_here; (with_reducible show wpAny _ _ (call (Value.ref 102) _) _ _ _); k_dflt (refine' peek_ok _ _ _ _ _ _ _ _ _ _ _ _ _ _ _ _ _ _ _ _ _ _ _ _ _ _ _ _ _ _ _ _ _ _ (by k_asm) (by k_asm) (by k_asm) (by k_asm) (by k_asm) (by first | rfl | assumption) (by first | decide | omega | ktr_room) (by first | decide | omega | ktr_units) (by exact ⟨by k_mem, ⟨_, _, by k_mem⟩, TK.mono (by assumption) (fun q hq => by repeat (first | exact hq | refine List.mem_cons_of_mem _ ?_))⟩) (by first | assumption | rfl) (by omega) ?_; intro h' tk' u' F' N'; (try k_sweep); (try dsimp only)))
  k_with "call ref nil" => (k_here; (with_reducible show wpAny _ _ (call (Value.ref 116) _) _ _ _); k_dflt (refine' take_ok _ _ _ _ _ _ _ _ _ _ _ _ _ _ _ _ _ _ _ _ _ _ _ _ _ _ _ _ _ _ _ _ _ _ (by k_asm) (by k_asm) (by k_asm) (by k_asm) (by k_asm) (by first | rfl | assumption) (by first | decide | omega | ktr_room) (by first | decide | omega | ktr_units) (by exact ⟨by k_mem, ⟨_, _, by k_mem⟩, TK.mono (by assumption) (fun q hq => by repeat (first | exact hq | refine List.mem_cons_of_mem _ ?_))⟩) (by first | assumption | rfl) (by omega) ?_; intro h' tk' u' news' F' N' K' S'; (obtain ⟨hoo3, hfi3, K3⟩ := pk _ K'); (have hdd3 := S'.hdd.choose_spec.choose_spec); (have pk3 : ∀ news2, Kept dd news' news2 → (o, listOf us.toArray nu) ∈ news2 ∧ (∀ v ∈ us, FIs news2 v .atom) ∧ Kept dd news news2 := fun news2 Kq => ⟨Kq _ hoo3 hod, fun v hv => (hfi3 v hv).keep N' hdd3 rfl Kq, K3.trans Kq⟩); (have hrd' := S'.hrd); (obtain ⟨ua', ud', hdd'⟩ := S'.hdd); (have hT' := S'.tk); (try k_sweep); (try dsimp only)))
  k_with "call ref nil" => (k_here; (with_reducible show wpAny _ _ (call (Value.ref 151) _) _ _ _); (rename Reads1 _ _ _ _ _ _ _ _ _ _ _ _ _ _ => IH9); k_dflt (refine' IH9 _ _ _ _ _ _ _ _ _ _ _ _ _ _ _ _ _ _ _ _ _ _ _ _ _ _ _ _ (by k_asm) (by k_asm) (by k_asm) (by k_asm) (by k_asm) (by first | rfl | assumption) (by first | decide | omega | ktr_room) (by first | decide | omega | ktr_units) (by assumption) (by assumption) (by assumption) (by assumption) (by omega) (by omega) ?_; intro h' tk' v' news' F' N' K' S' f'; (have hrd' := S'.hrd); (obtain ⟨ua', ud', hdd'⟩ := S'.hdd); (have hT' := S'.tk); (try k_sweep); (try dsimp only)))
  k_with "call ref nil" => (k_here; (with_reducible show wpAny _ _ (call (Value.ref 151) _) _ _ _); (rename Reads1 _ _ _ _ _ _ _ _ _ _ _ _ _ _ => IH9); k_dflt (refine' IH9 _ _ _ _ _ _ _ _ _ _ _ _ _ _ _ _ _ _ _ _ _ _ _ _ _ _ _ _ (by k_asm) (by k_asm) (by k_asm) (by k_asm) (by k_asm) (by first | rfl | assumption) (by first | decide | omega | ktr_room) (by first | decide | omega | ktr_units) (by assumption) (by assumption) (by assumption) (by assumption) (by omega) (by omega) ?_; intro h' tk' v' news' F' N' K' S' f'; (obtain ⟨hoo4, hfi4, K4⟩ := pk3 _ K'); (obtain ⟨rest4, N4, ad4, K5, S4, hfi5, f4⟩ := istep N' S' hoo4 hot hfi4 f' K4 hno); (clear N'); (try k_sweep); (try dsimp only)))
  k_with "call ref nil" => (k_here; (with_reducible show wpAny _ _ (call (Value.ref 109) _) _ _ _); k_dflt (refine' place_ok _ _ _ _ _ _ _ _ _ _ _ _ _ _ _ _ _ _ _ _ _ _ _ _ _ _ _ _ _ _ _ _ _ (by k_asm) (by k_asm) (by k_asm) (by k_asm) (by k_asm) (by first | rfl | assumption) (by first | decide | omega | ktr_room) (by first | decide | omega | ktr_units) (by exact ⟨by k_mem, ⟨_, _, by k_mem⟩, TK.mono (by assumption) (fun q hq => by repeat (first | exact hq | refine List.mem_cons_of_mem _ ?_))⟩) (by omega) (by assumption) (by assumption) (by assumption) ?_; intro h' tk' k' u' F' N' hk0' hk1'; (try k_sweep); (try dsimp only)))
  k_with "call ref cons nil" => (k_here; (with_reducible show wpAny _ _ (call (Value.ref 44) _) _ _ _); k_dflt (refine' rerr_ok _ _ _ _ _ _ _ _ _ _ _ _ _ _ _ _ _ _ _ _ _ _ _ _ _ _ _ (by k_asm) (by k_asm) (by k_asm) (by k_asm) (by first | rfl | assumption) (by first | decide | omega | ktr_room) (by first | decide | omega | ktr_units) (by decide) (by assumption) (by assumption) ?_; intro h' tk' e' o' F' hO' N'; refine' ⟨e', o', rfl, Frag.In.keeps (by k_asm) (Fr.keep F'), excI_is _, (N' _ List.mem_cons_self).1, hO', ?_⟩; refine' exc_leave (by assumption) F' N' hO' ?_; intro h8 R8 U8; (try dsimp only)))
  k_with "exec Raise some none" => (k_here; k_dflt (refine' exc_raise (K := K05 w.params) (C := 44) (bmB := veMro) (newId := "ValueError.__new__") (fI := 41) PySem.F.excBase_ValueError (by exact rfl) ?_))
  intro dp un gd cn cs a ccd cl outer A₀ base h₀ L m news s rd dd tl r nt vs ws i dq x Q E B F X N T hk hd hu hS hat hx hst hi hdq hbd hret hexc
  have hS0 := hS
  obtain ⟨hrd, ⟨ua, ud, hdd⟩, hT⟩ := hS
  obtain ⟨hst1, hst2⟩ := hst
  have hdsz : Sf.atom.size = 1 := rfl
  have hddp : Sf.atom.deep = 1 := rfl
  have hwl : Sf.atom.words.length = 1 := rfl
  have hne : (x == Str.ofString "->") = false := beq_eq_false_iff_ne.mpr hst2
  have hnxt : ∀ k, k ≤ n → ∃ y, wordAt ws (i + 2 * k + 1) = y ∧ ((y ≠ Str.ofString "(" ∧ y ≠ Str.ofString "&") ∧ y ≠ Str.ofString "|") := by
    intro k hk
    by_cases hkn : k < n
    · exact ⟨_, chain_I hat hkn, by decide⟩
    · have : k = n := by omega
      subst this
      exact ⟨_, hx, hst1⟩
  obtain ⟨y0, hy0, hsy0⟩ := hnxt 0 (by omega)
  have hat0 : At ws i Sf.atom.words := chain_P hat (j := 0) (by omega)
  have hy0' : wordAt ws (i + Sf.atom.words.length) = y0 := hy0
  refine wpAny_call ?_
  k_dflt (walk_at "enter")
  k_extra "steps"
  rename News _ _ _ _ => N1
  rename Fr _ _ _ _ => F1
  rename AllLt _ _ => l1
  unfold Halt
  obtain ⟨o, l2, e9⟩ : ∃ o : Addr, AllLt o news' ∧ o = _ := ⟨_, l1, rfl⟩
  subst e9
  have hod := allLt_ne l1 _ hdd'
  have hot := allLt_ne l1 _ hT'.htl
  have hno : ∀ q ∈ news, q.1 ≠ o := fun q hq => by
    by_cases h : q.1 = dd
    · rw [h]; exact hod
    · exact allLt_ne l1 _ (K' q hq h)
  dsimp only at hod hot
  replace hod : @Ne Nat o dd := Ne.symm hod
  replace hot : @Ne Nat o tl := Ne.symm hot
  have S1 := S'.at (j := i + 2 * 0 + 1) (by rw [hwl])
  refine whl_start 100 ?_
  refine while_by (IInv 203 w _ _ o rd dd tl r nt vs ws i (dq : Int) n news s) (by first | passes_own | with_unfolding_all passes_own) ?turn 100 n _ ⟨_, _, [v'], 0, 0, news', _, rfl, F1, rfl, rfl, N1, allLt_ne l1, K', S1, rfl, fun v hv => by rw [show v = v' by simpa using hv]; exact f', by omega, by omega⟩
  case turn =>
    clear F1 N1 l1 S1 S' K' f' hrd' hdd' hT' hrd hdd hT
    rintro k' s' ⟨h, tk, us, nu, k, rest, mm, rfl, F2, hm1, hm2, N2, ad, K2, S2, hul, hfi, hkn, hkk⟩
    replace F2 := frc F2 (upm2 hm1 hm2)
    clear hm1 hm2
    have pk : ∀ news', Kept dd ((o, listOf us.toArray nu) :: rest) news' → (o, listOf us.toArray nu) ∈ news' ∧ (∀ v ∈ us, FIs news' v .atom) ∧ Kept dd news news' := fun news' Kq =>
      ⟨Kq _ List.mem_cons_self hod, fun v hv => ((hfi v hv).mono fun q hq => List.mem_cons_of_mem _ hq).keep N2 (List.mem_cons_of_mem _ S2.hdd.choose_spec.choose_spec) rfl Kq, (K2.trans (Kept.sub fun q hq => List.mem_cons_of_mem _ hq)).trans Kq⟩
    obtain ⟨hrd, ⟨ua2, ud2, hdd⟩, hT⟩ := id S2
    by_cases hkl : k < n
    · have hw2 : wordAt ws (i + 2 * k + 1) = Str.ofString "->" := chain_I hat hkl
      have hat2 : At ws (i + 2 * k + 1 + 1) Sf.atom.words := by
        have := chain_P hat (j := k + 1) (by omega)
        rwa [show i + 2 * (k + 1) = i + 2 * k + 1 + 1 by omega] at this
      obtain ⟨y2, hy2, hsy2⟩ := hnxt (k + 1) (by omega)
      have hy2' : wordAt ws (i + 2 * k + 1 + 1 + Sf.atom.words.length) = y2 := by rw [← hy2, hwl]; congr 1
      k_extra "steps"
      rename Fr _ _ _ _ => F9
      rename News _ _ _ _ => N9
      exact ⟨k' - 1, by omega, _, _, us ++ [v'], nu + 1, k + 1, rest4, _, rfl, F9, rfl, rfl, N9, ad4, K5, S4.at (by rw [hwl]; omega), by simp [hul], fun v hv => by
        rcases List.mem_append.mp hv with hv | hv
        · exact hfi5 v hv
        · rw [show v = v' by simpa using hv]; exact f4, by omega, by omega⟩
    · have hkn2 : k = n := by omega
      subst hkn2
      obtain ⟨us', u9, rfl⟩ : ∃ us' u9, us = us' ++ [u9] := by
        rcases List.eq_nil_or_concat us with e | ⟨a, b, e⟩
        · rw [e] at hul; simp at hul
        · exact ⟨a, b, by simpa using e⟩
      have hul' : us'.length = k := by simpa using hul
      have hful : (us' ++ [u9]).length = k + 1 := hul
      by_cases h80 : k ≤ 79
      · have hcut : decide ((80 : Int) < ((k + 1 : Nat) : Int)) = false := decide_eq_false (by omega)
        k_extra "steps"
        rename Fr _ _ _ _ => F3
        rename News _ _ _ _ => N3
        unfold Halt
        refine whl_start 100 ?_
        refine while_by (JInv 203 w _ _ o rd dd tl r nt vs ws (i + 2 * k + 1) (dq : Int) k news s) (by first | passes_own | with_unfolding_all passes_own) ?turn2 100 k _ ⟨_, _, us', nu + 1, rest, _, u9, rfl, F3, rfl, rfl, N3, ad, K2, S2, hul', fun v hv => hfi v (List.mem_append_left _ hv), by omega, by rw [Nat.sub_self]; exact hfi u9 (by simp)⟩
        case turn2 =>
          clear F3 N3 pk hfi K2 S2 hrd hdd hT ad
          rintro k2 s2 ⟨h, tk, us, nu, rest, mm, v, rfl, F2, hm1, hm2, N2, ad, K2, S2, hul3, hfi, hk2, hfv⟩
          replace F2 := frc F2 (upm2 hm1 hm2)
          clear hm1 hm2
          rcases List.eq_nil_or_concat us with e | ⟨us3, u3, e⟩
          · subst e
            have hk0 : k2 = 0 := by simpa using hul3.symm
            subst hk0
            have hl0 : ([] : List Value).length = 0 := rfl
            k_extra "steps"
            rename Fr h₀ L _ _ => F9
            rename News h₀ L _ _ => N9
            exact hret h80 _ _ _ _ F9 N9 (K2.trans (Kept.sub fun q hq => List.mem_cons_of_mem _ hq)) (S2.mono fun q hq => List.mem_cons_of_mem _ hq) (hfv.mono fun q hq => List.mem_cons_of_mem _ hq)
          · rw [List.concat_eq_append] at e
            subst e
            have hl3 : (us3 ++ [u3]).length = k2 := hul3
            have hl4 : us3.length + 1 = k2 := by simpa using hul3
            have hcut2 : decide ((0 : Int) < (k2 : Int)) = true := decide_eq_true (by omega)
            k_extra "steps"
            rename Fr _ _ _ _ => F9
            rename News _ _ _ _ => N9
            exact JInv.add (nd := 0) F9 N9 rfl rfl rfl ad K2 S2 hl4 hfi hk2 hfv
      · have hcut : decide ((80 : Int) < ((k + 1 : Nat) : Int)) = true := decide_eq_true (by omega)
        obtain ⟨hbd1, he0, he1⟩ := hbd (by omega)
        k_extra "steps"
        exact hexc (by omega) _ _ _ _ R8 (by assumption) U8
/-- a chain is read -/
theorem impn_ok (w : World) (p : Program) (loose : List Str) (mean : ExcName → Option Value) (mg mb : Str → Option Value) (n : Nat) (hn : n ≤ 79) (ex : Nat)
    (IH : Reads1 PySem.Challenge.rw_ui0505_05.row.prog K05 203 151 w p loose mean mg mb .atom ex 80 (fun x => (x ≠ Str.ofString "(" ∧ x ≠ Str.ofString "&") ∧ x ≠ Str.ofString "|")) :
    Reads1 PySem.Challenge.rw_ui0505_05.row.prog K05 203 144 w p loose mean mg mb (chain n) (ex + 120) 80 (fun x => ((x ≠ Str.ofString "(" ∧ x ≠ Str.ofString "&") ∧ x ≠ Str.ofString "|") ∧ x ≠ Str.ofString "->") := by
  unfold Reads1
  intro dp un gd cn cs a ccd cl outer A₀ base h₀ L m news s rd dd tl r nt vs ws i dq x Q E B F X N T hk hd hu hS hat hx hst hi hdq hret
  rw [chain_len] at hx hi hret
  rw [chain_size] at hd hu
  rw [chain_deep] at hdq
  exact impn_both w p loose mean mg mb n ex IH dp un gd cn cs a ccd cl outer A₀ base h₀ L m news s rd dd tl r nt vs ws i dq x Q E B F X N T hk (by omega) (by omega) hS hat hx hst (by omega) hdq (fun h => absurd h (by omega)) (fun _ h' tk' v news' F' N' K' S' f' => hret h' tk' v news' F' N' K' S' f') (fun h => absurd h (by omega))
/-- or refused -/
theorem impn_r (w : World) (p : Program) (loose : List Str) (mean : ExcName → Option Value) (mg mb : Str → Option Value) (n : Nat) (hn : 80 ≤ n) (ex : Nat)
    (IH : Reads1 PySem.Challenge.rw_ui0505_05.row.prog K05 203 151 w p loose mean mg mb .atom ex 80 (fun x => (x ≠ Str.ofString "(" ∧ x ≠ Str.ofString "&") ∧ x ≠ Str.ofString "|")) :
    Raises1 PySem.Challenge.rw_ui0505_05.row.prog K05 203 44 144 w p loose mean mg mb (chain n) (ex + 10) (fun dq => dq + 1 ≤ 80) (fun x => ((x ≠ Str.ofString "(" ∧ x ≠ Str.ofString "&") ∧ x ≠ Str.ofString "|") ∧ x ≠ Str.ofString "->") := by
  unfold Raises1
  intro dp un gd cn cs a ccd cl outer A₀ base h₀ L m news s rd dd tl r nt vs ws i dq x Q E B F X N T hk hd hu hS hat hx hst hi hdq hbad hbd he0 he1 hexc
  rw [chain_len] at hx hi
  exact impn_both w p loose mean mg mb n ex IH dp un gd cn cs a ccd cl outer A₀ base h₀ L m news s rd dd tl r nt vs ws i dq x Q E B F X N T hk (by omega) (by omega) hS hat hx hst (by omega) hbad (fun _ => ⟨hbd, he0, he1⟩) (fun h => absurd h (by omega)) (fun _ => hexc)
theorem simple_rD (w : World) (p : Program) (loose : List Str) (mean : ExcName → Option Value) (mg mb : Str → Option Value) (f : Sf) (ex : Nat) (hex : 2 ≤ ex) (stop : Str → Prop) :
    Raises1 PySem.Challenge.rw_ui0505_05.row.prog K05 203 44 165 w p loose mean mg mb f ex (fun dq => dq = 80) stop := by
  unfold Raises1
  k_fill
  k_with_none
  k_with "steps" => repeat' (first | (k_unfold; (try dsimp only)) | walk1 | (dsimp only; walk1) | (leave1; walk_say "STEP leave1"; try dsimp only) | k_extra "mine")
  k_with "spliced" => first | refine args_cons ?_ | refine args_nil ⟨Fr.keep (by assumption) _ _ (by assumption), ?_⟩ | (refine args_nil ?_; try simp only [List.cons_append, List.nil_append])
  k_with "call builtin:len cons nil" => (k_here; (with_reducible show wpAny _ _ (call (Value.builtin "len") [Value.ref _]) _ _ _); k_dflt (refine' lenL (by k_asm) (by k_mem) (by first | (with_reducible assumption) | (simp only [List.length_append, List.length_map, List.length_cons, List.length_nil]; with_reducible rfl)) (by omega) ?_))
  k_with "call ref cons nil" => (k_here; k_dflt (refine' call_cls (by k_asm) (by k_asm) (by k_asm) (by k_is) (by k_is) (by k_is) ?_; k_whole; intro x' d' h' F' N' l1 l2; (try k_lt l1); (try k_lt2 l2); (try k_sweep); walk_at "enter"))
  k_with "call builtin:list.append cons nil" => (k_here; (with_reducible show wpAny _ _ (call (Value.builtin "list.append") [Value.ref _, _]) _ _ _); k_dflt (refine' appendL (by k_asm) (by k_asm) (by k_upd) (by ((try simp only [List.length_append, List.length_map, List.length_cons, List.length_nil]); omega)) ?_; k_whole); intro h' F' N'; (try k_sweep))
  k_with "subscriptTail Attribute Name Attribute ref int" => (k_here; (with_reducible show wpAny _ _ (subscriptTail _ _ (Value.ref _) (Value.int _ _)) _ _ _); k_dflt (refine' itemL (by k_asm) (by with_reducible assumption) (by k_mem) (by with_reducible rfl) (by omega) ?_ (by with_unfolding_all rfl); k_whole))
  k_with "subscriptTail Subscript Attribute Attribute Constant ref int" => (k_here; (with_reducible show wpAny _ _ (subscriptTail _ _ (Value.ref _) (Value.int _ _)) _ _ _); k_dflt (refine' itemT (by k_asm) (by k_mem) (by decide) (by decide) (by rfl) (by rfl) ?_ (by with_unfolding_all rfl) (by intro _; with_unfolding_all rfl)))
  k_with "WhlIf" => first | (with_reducible refine WhlIf.no (by with_reducible assumption) ?_) | (with_reducible refine WhlIf.yes (by with_reducible assumption) ?_)
  k_with "exec While Compare cons nil" => (k_here; (with_reducible refine whl_start 100 ?_))
  k_with "call ref nil" => (k_here; (with_reducible show wpAny _ _ (call (Value.ref 109) _) _ _ _); k_dflt (refine' place_ok _ _ _ _ _ _ _ _ _ _ _ _ _ _ _ _ _ _ _ _ _ _ _ _ _ _ _ _ _ _ _ _ _ (by k_asm) (by k_asm) (by k_asm) (by k_asm) (by k_asm) (by first | rfl | assumption) (by first | decide | omega | ktr_room) (by first | decide | omega | ktr_units) (by exact ⟨by k_mem, ⟨_, _, by k_mem⟩, TK.mono (by assumption) (fun q hq => by repeat (first | exact hq | refine List.mem_cons_of_mem _ ?_))⟩) (by omega) (by assumption) (by assumption) (by assumption) ?_; intro h' tk' k' u' F' N' hk0' hk1'; (try k_sweep); (try dsimp only)))
  k_with "call ref cons nil" => (k_here; (with_reducible show wpAny _ _ (call (Value.ref 44) _) _ _ _); k_dflt (refine' rerr_ok _ _ _ _ _ _ _ _ _ _ _ _ _ _ _ _ _ _ _ _ _ _ _ _ _ _ _ (by k_asm) (by k_asm) (by k_asm) (by k_asm) (by first | rfl | assumption) (by first | decide | omega | ktr_room) (by first | decide | omega | ktr_units) (by decide) (by assumption) (by assumption) ?_; intro h' tk' e' o' F' hO' N'; refine' ⟨e', o', rfl, Frag.In.keeps (by k_asm) (Fr.keep F'), excI_is _, (N' _ List.mem_cons_self).1, hO', ?_⟩; refine' exc_leave (by assumption) F' N' hO' ?_; intro h8 R8 U8; (try dsimp only)))
  k_with "exec Raise some none" => (k_here; k_dflt (refine' exc_raise (K := K05 w.params) (C := 44) (bmB := veMro) (newId := "ValueError.__new__") (fI := 41) PySem.F.excBase_ValueError (by exact rfl) ?_))
  intro dp un gd cn cs a ccd cl outer A₀ base h₀ L m news s rd dd tl r nt vs ws i dq x Q E B F X N T hk hd hu hS hat hx hst hi hdq hbad hbd he0 he1 hexc
  obtain ⟨hrd, ⟨ua, ud, hdd⟩, hT⟩ := hS
  subst hbad
  have N1 := RS.front N hdd
  have hT1 := hT.off N hdd rfl
  have nr : @Ne Nat rd dd := nne Obj.cls N hrd hdd (fun e => by cases e)
  have hr1 : (rd, instObj 203 dd) ∈ off dd news := mem_off.mpr ⟨hrd, nr⟩
  have ad : ∀ q ∈ off dd news, q.1 ≠ dd := off_ne
  generalize off dd news = rest at N1 hT1 hr1 ad
  clear N hrd hdd hT
  have hlen := f.len_pos
  refine wpAny_call ?_
  k_dflt (walk_at "enter")
  k_extra "steps"
  exact hexc _ _ _ _ R8 (by assumption) U8
theorem simple_rP (w : World) (p : Program) (loose : List Str) (mean : ExcName → Option Value) (mg mb : Str → Option Value) (f : Sf) (bad : Nat → Prop) (stop : Str → Prop)
    (IH : Raises1 PySem.Challenge.rw_ui0505_05.row.prog K05 203 44 172 w p loose mean mg mb f 4 bad stop) :
    Raises1 PySem.Challenge.rw_ui0505_05.row.prog K05 203 44 165 w p loose mean mg mb f 2 (fun dq => dq < 80 ∧ bad (dq + 1)) stop := by
  unfold Raises1
  k_fill
  k_with_none
  k_with "steps" => repeat' (first | (k_unfold; (try dsimp only)) | walk1 | (dsimp only; walk1) | (leave1; walk_say "STEP leave1"; try dsimp only) | k_extra "mine")
  k_with "spliced" => first | refine args_cons ?_ | refine args_nil ⟨Fr.keep (by assumption) _ _ (by assumption), ?_⟩ | (refine args_nil ?_; try simp only [List.cons_append, List.nil_append])
  k_with "call builtin:len cons nil" => (k_here; (with_reducible show wpAny _ _ (call (Value.builtin "len") [Value.ref _]) _ _ _); k_dflt (refine' lenL (by k_asm) (by k_mem) (by first | (with_reducible assumption) | (simp only [List.length_append, List.length_map, List.length_cons, List.length_nil]; with_reducible rfl)) (by omega) ?_))
  k_with "call ref cons nil" => (k_here; k_dflt (refine' call_cls (by k_asm) (by k_asm) (by k_asm) (by k_is) (by k_is) (by k_is) ?_; k_whole; intro x' d' h' F' N' l1 l2; (try k_lt l1); (try k_lt2 l2); (try k_sweep); walk_at "enter"))
  k_with "call builtin:list.append cons nil" => (k_here; (with_reducible show wpAny _ _ (call (Value.builtin "list.append") [Value.ref _, _]) _ _ _); k_dflt (refine' appendL (by k_asm) (by k_asm) (by k_upd) (by ((try simp only [List.length_append, List.length_map, List.length_cons, List.length_nil]); omega)) ?_; k_whole); intro h' F' N'; (try k_sweep))
  k_with "subscriptTail Attribute Name Attribute ref int" => (k_here; (with_reducible show wpAny _ _ (subscriptTail _ _ (Value.ref _) (Value.int _ _)) _ _ _); k_dflt (refine' itemL (by k_asm) (by with_reducible assumption) (by k_mem) (by with_reducible rfl) (by omega) ?_ (by with_unfolding_all rfl); k_whole))
  k_with "subscriptTail Subscript Attribute Attribute Constant ref int" => (k_here; (with_reducible show wpAny _ _ (subscriptTail _ _ (Value.ref _) (Value.int _ _)) _ _ _); k_dflt (refine' itemT (by k_asm) (by k_mem) (by decide) (by decide) (by rfl) (by rfl) ?_ (by with_unfolding_all rfl) (by intro _; with_unfolding_all rfl)))
  k_with "WhlIf" => first | (with_reducible refine WhlIf.no (by with_reducible assumption) ?_) | (with_reducible refine WhlIf.yes (by with_reducible assumption) ?_)
  k_with "exec While Compare cons nil" => (k_here; (with_reducible refine whl_start 100 ?_))
  k_with "call ref nil" => (k_here; (with_reducible show wpAny _ _ (call (Value.ref 172) _) _ _ _); (rename Raises1 _ _ _ _ _ _ _ _ _ _ _ _ _ _ _ => IH9); k_dflt (refine' IH9 _ _ _ _ _ _ _ _ _ _ _ _ _ _ _ _ _ _ _ _ _ _ _ _ (dq + 1) x _ _ (by k_asm) (by k_asm) (by k_asm) (by k_asm) (by k_asm) (by first | rfl | assumption) (by first | decide | omega | ktr_room) (by first | decide | omega | ktr_units) (by exact RS.cast ⟨by k_mem, ⟨_, _, by k_mem⟩, TK.mono (by assumption) (fun q hq => by repeat (first | exact hq | refine List.mem_cons_of_mem _ ?_))⟩ (by omega)) (by assumption) (by assumption) (by assumption) (by omega) (by omega) (by assumption) (by assumption) (by assumption) (by assumption) ?_; intro h9 tk9 e9 g9 R9 FG9 U9; (try dsimp only); refine' exc_pass (by assumption) FG9 R9 U9 ?_; intro h8 R8 U8; (try dsimp only)))
  intro dp un gd cn cs a ccd cl outer A₀ base h₀ L m news s rd dd tl r nt vs ws i dq x Q E B F X N T hk hd hu hS hat hx hst hi hdq hbad hbd he0 he1 hexc
  obtain ⟨hlt, hbad⟩ := hbad
  obtain ⟨hrd, ⟨ua, ud, hdd⟩, hT⟩ := hS
  have N1 := RS.front N hdd
  have hT1 := hT.off N hdd rfl
  have nr : @Ne Nat rd dd := nne Obj.cls N hrd hdd (fun e => by cases e)
  have hr1 : (rd, instObj 203 dd) ∈ off dd news := mem_off.mpr ⟨hrd, nr⟩
  have ad : ∀ q ∈ off dd news, q.1 ≠ dd := off_ne
  generalize off dd news = rest at N1 hT1 hr1 ad
  clear N hrd hdd hT
  have hcut : decide ((80 : Int) < (dq : Int) + 1) = false := decide_eq_false (by omega)
  refine wpAny_call ?_
  k_dflt (walk_at "enter")
  k_extra "steps"
  exact hexc _ _ _ _ R8 (by assumption) U8
theorem sno_r (w : World) (p : Program) (loose : List Str) (mean : ExcName → Option Value) (mg mb : Str → Option Value) (f : Sf) (bad : Nat → Prop) (stop : Str → Prop)
    (IH : Raises1 PySem.Challenge.rw_ui0505_05.row.prog K05 203 44 165 w p loose mean mg mb f 2 bad stop) :
    Raises1 PySem.Challenge.rw_ui0505_05.row.prog K05 203 44 172 w p loose mean mg mb (.no f) 4 bad stop := by
  unfold Raises1
  k_fill
  k_with_none
  k_with "steps" => repeat' (first | (k_unfold; (try dsimp only)) | walk1 | (dsimp only; walk1) | (leave1; walk_say "STEP leave1"; try dsimp only) | k_extra "mine")
  k_with "spliced" => first | refine args_cons ?_ | refine args_nil ⟨Fr.keep (by assumption) _ _ (by assumption), ?_⟩ | (refine args_nil ?_; try simp only [List.cons_append, List.nil_append])
  k_with "call builtin:len cons nil" => (k_here; (with_reducible show wpAny _ _ (call (Value.builtin "len") [Value.ref _]) _ _ _); k_dflt (refine' lenL (by k_asm) (by k_mem) (by first | (with_reducible assumption) | (simp only [List.length_append, List.length_map, List.length_cons, List.length_nil]; with_reducible rfl)) (by omega) ?_))
  k_with "call ref cons nil" => (k_here; k_dflt (refine' call_cls (by k_asm) (by k_asm) (by k_asm) (by k_is) (by k_is) (by k_is) ?_; k_whole; intro x' d' h' F' N' l1 l2; (try k_lt l1); (try k_lt2 l2); (try k_sweep); walk_at "enter"))
  k_with "call builtin:list.append cons nil" => (k_here; (with_reducible show wpAny _ _ (call (Value.builtin "list.append") [Value.ref _, _]) _ _ _); k_dflt (refine' appendL (by k_asm) (by k_asm) (by k_upd) (by ((try simp only [List.length_append, List.length_map, List.length_cons, List.length_nil]); omega)) ?_; k_whole); intro h' F' N'; (try k_sweep))
  k_with "subscriptTail Attribute Name Attribute ref int" => (k_here; (with_reducible show wpAny _ _ (subscriptTail _ _ (Value.ref _) (Value.int _ _)) _ _ _); k_dflt (refine' itemL (by k_asm) (by with_reducible assumption) (by k_mem) (by with_reducible rfl) (by omega) ?_ (by with_unfolding_all rfl); k_whole))
  k_with "subscriptTail Subscript Attribute Attribute Constant ref int" => (k_here; (with_reducible show wpAny _ _ (subscriptTail _ _ (Value.ref _) (Value.int _ _)) _ _ _); k_dflt (refine' itemT (by k_asm) (by k_mem) (by decide) (by decide) (by rfl) (by rfl) ?_ (by with_unfolding_all rfl) (by intro _; with_unfolding_all rfl)))
  k_with "WhlIf" => first | (with_reducible refine WhlIf.no (by with_reducible assumption) ?_) | (with_reducible refine WhlIf.yes (by with_reducible assumption) ?_)
  k_with "exec While Compare cons nil" => (k_here; (with_reducible refine whl_start 100 ?_))
  k_with "call ref nil" => (k_here; (with_reducible show wpAny _ _ (call (Value.ref 102) _) _ _ _); k_dflt (refine' peek_ok _ _ _ _ _ _ _ _ _ _ _ _ _ _ _ _ _ _ _ _ _ _ _ _ _ _ _ _ _ _ _ _ _ _ (by k_asm) (by k_asm) (by k_asm) (by k_asm) (by k_asm) (by first | rfl | assumption) (by first | decide | omega | ktr_room) (by first | decide | omega | ktr_units) (by exact ⟨by k_mem, ⟨_, _, by k_mem⟩, TK.mono (by assumption) (fun q hq => by repeat (first | exact hq | refine List.mem_cons_of_mem _ ?_))⟩) (by first | assumption | rfl) (by omega) ?_; intro h' tk' u' F' N'; (try k_sweep); (try dsimp only)))
  k_with "call ref nil" => (k_here; (with_reducible show wpAny _ _ (call (Value.ref 116) _) _ _ _); k_dflt (refine' take_ok _ _ _ _ _ _ _ _ _ _ _ _ _ _ _ _ _ _ _ _ _ _ _ _ _ _ _ _ _ _ _ _ _ _ (by k_asm) (by k_asm) (by k_asm) (by k_asm) (by k_asm) (by first | rfl | assumption) (by first | decide | omega | ktr_room) (by first | decide | omega | ktr_units) (by exact ⟨by k_mem, ⟨_, _, by k_mem⟩, TK.mono (by assumption) (fun q hq => by repeat (first | exact hq | refine List.mem_cons_of_mem _ ?_))⟩) (by first | assumption | rfl) (by omega) ?_; intro h' tk' u' news' F' N' K' S'; (have hrd' := S'.hrd); (obtain ⟨ua', ud', hdd'⟩ := S'.hdd); (have hT' := S'.tk); (try k_sweep); (try dsimp only)))
  k_with "call ref nil" => (k_here; (with_reducible show wpAny _ _ (call (Value.ref 165) _) _ _ _); (rename Raises1 _ _ _ _ _ _ _ _ _ _ _ _ _ _ _ => IH9); k_dflt (refine' IH9 _ _ _ _ _ _ _ _ _ _ _ _ _ _ _ _ _ _ _ _ _ _ _ _ dq x _ _ (by k_asm) (by k_asm) (by k_asm) (by k_asm) (by k_asm) (by first | rfl | assumption) (by first | decide | omega | ktr_room) (by first | decide | omega | ktr_units) (by assumption) (by assumption) (by rw [← hx]; congr 1; omega) (by assumption) (by omega) (by omega) (by assumption) (by assumption) (by assumption) (by assumption) ?_; intro h9 tk9 e9 g9 R9 FG9 U9; (try dsimp only); refine' exc_pass (by assumption) FG9 R9 U9 ?_; intro h8 R8 U8; (try dsimp only)))
  intro dp un gd cn cs a ccd cl outer A₀ base h₀ L m news s rd dd tl r nt vs ws i dq x Q E B F X N T hk hd hu hS hat hx hst hi hdq hbad hbd he0 he1 hexc
  obtain ⟨hrd, ⟨ua, ud, hdd⟩, hT⟩ := id hS
  have hw0 := hat.head
  have hat1 := hat.tail
  simp only [Sf.words, List.length_cons] at *
  refine wpAny_call ?_
  k_dflt (walk_at "enter")
  k_extra "steps"
  exact hexc _ _ _ _ R8 (by assumption) U8
theorem conj_r (w : World) (p : Program) (loose : List Str) (mean : ExcName → Option Value) (mg mb : Str → Option Value) (f : Sf) (ex : Nat) (bad : Nat → Prop) (stop : Str → Prop)
    (IH : Raises1 PySem.Challenge.rw_ui0505_05.row.prog K05 203 44 165 w p loose mean mg mb f ex bad stop) :
    Raises1 PySem.Challenge.rw_ui0505_05.row.prog K05 203 44 158 w p loose mean mg mb f (ex + 2) bad stop := by
  unfold Raises1
  k_fill
  k_with_none
  k_with "steps" => repeat' (first | (k_unfold; (try dsimp only)) | walk1 | (dsimp only; walk1) | (leave1; walk_say "STEP leave1"; try dsimp only) | k_extra "mine")
  k_with "spliced" => first | refine args_cons ?_ | refine args_nil ⟨Fr.keep (by assumption) _ _ (by assumption), ?_⟩ | (refine args_nil ?_; try simp only [List.cons_append, List.nil_append])
  k_with "call builtin:len cons nil" => (k_here; (with_reducible show wpAny _ _ (call (Value.builtin "len") [Value.ref _]) _ _ _); k_dflt (refine' lenL (by k_asm) (by k_mem) (by first | (with_reducible assumption) | (simp only [List.length_append, List.length_map, List.length_cons, List.length_nil]; with_reducible rfl)) (by omega) ?_))
  k_with "call ref cons nil" => (k_here; k_dflt (refine' call_cls (by k_asm) (by k_asm) (by k_asm) (by k_is) (by k_is) (by k_is) ?_; k_whole; intro x' d' h' F' N' l1 l2; (try k_lt l1); (try k_lt2 l2); (try k_sweep); walk_at "enter"))
  k_with "call builtin:list.append cons nil" => (k_here; (with_reducible show wpAny _ _ (call (Value.builtin "list.append") [Value.ref _, _]) _ _ _); k_dflt (refine' appendL (by k_asm) (by k_asm) (by k_upd) (by ((try simp only [List.length_append, List.length_map, List.length_cons, List.length_nil]); omega)) ?_; k_whole); intro h' F' N'; (try k_sweep))
  k_with "subscriptTail Attribute Name Attribute ref int" => (k_here; (with_reducible show wpAny _ _ (subscriptTail _ _ (Value.ref _) (Value.int _ _)) _ _ _); k_dflt (refine' itemL (by k_asm) (by with_reducible assumption) (by k_mem) (by with_reducible rfl) (by omega) ?_ (by with_unfolding_all rfl); k_whole))
  k_with "subscriptTail Subscript Attribute Attribute Constant ref int" => (k_here; (with_reducible show wpAny _ _ (subscriptTail _ _ (Value.ref _) (Value.int _ _)) _ _ _); k_dflt (refine' itemT (by k_asm) (by k_mem) (by decide) (by decide) (by rfl) (by rfl) ?_ (by with_unfolding_all rfl) (by intro _; with_unfolding_all rfl)))
  k_with "WhlIf" => first | (with_reducible refine WhlIf.no (by with_reducible assumption) ?_) | (with_reducible refine WhlIf.yes (by with_reducible assumption) ?_)
  k_with "exec While Compare cons nil" => (k_here; (with_reducible refine whl_start 100 ?_))
  k_with "call ref nil" => (k_here; (with_reducible show wpAny _ _ (call (Value.ref 165) _) _ _ _); (rename Raises1 _ _ _ _ _ _ _ _ _ _ _ _ _ _ _ => IH9); k_dflt (refine' IH9 _ _ _ _ _ _ _ _ _ _ _ _ _ _ _ _ _ _ _ _ _ _ _ _ dq x _ _ (by k_asm) (by k_asm) (by k_asm) (by k_asm) (by k_asm) (by first | rfl | assumption) (by first | decide | omega | ktr_room) (by first | decide | omega | ktr_units) (by assumption) (by assumption) (by assumption) (by assumption) (by omega) (by omega) (by assumption) (by assumption) (by assumption) (by assumption) ?_; intro h9 tk9 e9 g9 R9 FG9 U9; (try dsimp only); refine' exc_pass (by assumption) FG9 R9 U9 ?_; intro h8 R8 U8; (try dsimp only)))
  intro dp un gd cn cs a ccd cl outer A₀ base h₀ L m news s rd dd tl r nt vs ws i dq x Q E B F X N T hk hd hu hS hat hx hst hi hdq hbad hbd he0 he1 hexc
  obtain ⟨hrd, ⟨ua, ud, hdd⟩, hT⟩ := id hS
  refine wpAny_call ?_
  k_dflt (walk_at "enter")
  k_extra "steps"
  exact hexc _ _ _ _ R8 (by assumption) U8
theorem disj_r (w : World) (p : Program) (loose : List Str) (mean : ExcName → Option Value) (mg mb : Str → Option Value) (f : Sf) (ex : Nat) (bad : Nat → Prop) (stop : Str → Prop)
    (IH : Raises1 PySem.Challenge.rw_ui0505_05.row.prog K05 203 44 158 w p loose mean mg mb f ex bad stop) :
    Raises1 PySem.Challenge.rw_ui0505_05.row.prog K05 203 44 151 w p loose mean mg mb f (ex + 2) bad stop := by
  unfold Raises1
  k_fill
  k_with_none
  k_with "steps" => repeat' (first | (k_unfold; (try dsimp only)) | walk1 | (dsimp only; walk1) | (leave1; walk_say "STEP leave1"; try dsimp only) | k_extra "mine")
  k_with "spliced" => first | refine args_cons ?_ | refine args_nil ⟨Fr.keep (by assumption) _ _ (by assumption), ?_⟩ | (refine args_nil ?_; try simp only [List.cons_append, List.nil_append])
  k_with "call builtin:len cons nil" => (k_here; (with_reducible show wpAny _ _ (call (Value.builtin "len") [Value.ref _]) _ _ _); k_dflt (refine' lenL (by k_asm) (by k_mem) (by first | (with_reducible assumption) | (simp only [List.length_append, List.length_map, List.length_cons, List.length_nil]; with_reducible rfl)) (by omega) ?_))
  k_with "call ref cons nil" => (k_here; k_dflt (refine' call_cls (by k_asm) (by k_asm) (by k_asm) (by k_is) (by k_is) (by k_is) ?_; k_whole; intro x' d' h' F' N' l1 l2; (try k_lt l1); (try k_lt2 l2); (try k_sweep); walk_at "enter"))
  k_with "call builtin:list.append cons nil" => (k_here; (with_reducible show wpAny _ _ (call (Value.builtin "list.append") [Value.ref _, _]) _ _ _); k_dflt (refine' appendL (by k_asm) (by k_asm) (by k_upd) (by ((try simp only [List.length_append, List.length_map, List.length_cons, List.length_nil]); omega)) ?_; k_whole); intro h' F' N'; (try k_sweep))
  k_with "subscriptTail Attribute Name Attribute ref int" => (k_here; (with_reducible show wpAny _ _ (subscriptTail _ _ (Value.ref _) (Value.int _ _)) _ _ _); k_dflt (refine' itemL (by k_asm) (by with_reducible assumption) (by k_mem) (by with_reducible rfl) (by omega) ?_ (by with_unfolding_all rfl); k_whole))
  k_with "subscriptTail Subscript Attribute Attribute Constant ref int" => (k_here; (with_reducible show wpAny _ _ (subscriptTail _ _ (Value.ref _) (Value.int _ _)) _ _ _); k_dflt (refine' itemT (by k_asm) (by k_mem) (by decide) (by decide) (by rfl) (by rfl) ?_ (by with_unfolding_all rfl) (by intro _; with_unfolding_all rfl)))
  k_with "WhlIf" => first | (with_reducible refine WhlIf.no (by with_reducible assumption) ?_) | (with_reducible refine WhlIf.yes (by with_reducible assumption) ?_)
  k_with "exec While Compare cons nil" => (k_here; (with_reducible refine whl_start 100 ?_))
  k_with "call ref nil" => (k_here; (with_reducible show wpAny _ _ (call (Value.ref 158) _) _ _ _); (rename Raises1 _ _ _ _ _ _ _ _ _ _ _ _ _ _ _ => IH9); k_dflt (refine' IH9 _ _ _ _ _ _ _ _ _ _ _ _ _ _ _ _ _ _ _ _ _ _ _ _ dq x _ _ (by k_asm) (by k_asm) (by k_asm) (by k_asm) (by k_asm) (by first | rfl | assumption) (by first | decide | omega | ktr_room) (by first | decide | omega | ktr_units) (by assumption) (by assumption) (by assumption) (by assumption) (by omega) (by omega) (by assumption) (by assumption) (by assumption) (by assumption) ?_; intro h9 tk9 e9 g9 R9 FG9 U9; (try dsimp only); refine' exc_pass (by assumption) FG9 R9 U9 ?_; intro h8 R8 U8; (try dsimp only)))
  intro dp un gd cn cs a ccd cl outer A₀ base h₀ L m news s rd dd tl r nt vs ws i dq x Q E B F X N T hk hd hu hS hat hx hst hi hdq hbad hbd he0 he1 hexc
  obtain ⟨hrd, ⟨ua, ud, hdd⟩, hT⟩ := id hS
  refine wpAny_call ?_
  k_dflt (walk_at "enter")
  k_extra "steps"
  exact hexc _ _ _ _ R8 (by assumption) U8
theorem imp1_r (w : World) (p : Program) (loose : List Str) (mean : ExcName → Option Value) (mg mb : Str → Option Value) (f : Sf) (ex : Nat) (bad : Nat → Prop) (stop : Str → Prop)
    (IH : Raises1 PySem.Challenge.rw_ui0505_05.row.prog K05 203 44 151 w p loose mean mg mb f ex bad stop) :
    Raises1 PySem.Challenge.rw_ui0505_05.row.prog K05 203 44 144 w p loose mean mg mb f (ex + 2) bad stop := by
  unfold Raises1
  k_fill
  k_with_none
  k_with "steps" => repeat' (first | (k_unfold; (try dsimp only)) | walk1 | (dsimp only; walk1) | (leave1; walk_say "STEP leave1"; try dsimp only) | k_extra "mine")
  k_with "spliced" => first | refine args_cons ?_ | refine args_nil ⟨Fr.keep (by assumption) _ _ (by assumption), ?_⟩ | (refine args_nil ?_; try simp only [List.cons_append, List.nil_append])
  k_with "call builtin:len cons nil" => (k_here; (with_reducible show wpAny _ _ (call (Value.builtin "len") [Value.ref _]) _ _ _); k_dflt (refine' lenL (by k_asm) (by k_mem) (by first | (with_reducible assumption) | (simp only [List.length_append, List.length_map, List.length_cons, List.length_nil]; with_reducible rfl)) (by omega) ?_))
  k_with "call ref cons nil" => (k_here; k_dflt (refine' call_cls (by k_asm) (by k_asm) (by k_asm) (by k_is) (by k_is) (by k_is) ?_; k_whole; intro x' d' h' F' N' l1 l2; (try k_lt l1); (try k_lt2 l2); (try k_sweep); walk_at "enter"))
  k_with "call builtin:list.append cons nil" => (k_here; (with_reducible show wpAny _ _ (call (Value.builtin "list.append") [Value.ref _, _]) _ _ _); k_dflt (refine' appendL (by k_asm) (by k_asm) (by k_upd) (by ((try simp only [List.length_append, List.length_map, List.length_cons, List.length_nil]); omega)) ?_; k_whole); intro h' F' N'; (try k_sweep))
  k_with "subscriptTail Attribute Name Attribute ref int" => (k_here; (with_reducible show wpAny _ _ (subscriptTail _ _ (Value.ref _) (Value.int _ _)) _ _ _); k_dflt (refine' itemL (by k_asm) (by with_reducible assumption) (by k_mem) (by with_reducible rfl) (by omega) ?_ (by with_unfolding_all rfl); k_whole))
  k_with "subscriptTail Subscript Attribute Attribute Constant ref int" => (k_here; (with_reducible show wpAny _ _ (subscriptTail _ _ (Value.ref _) (Value.int _ _)) _ _ _); k_dflt (refine' itemT (by k_asm) (by k_mem) (by decide) (by decide) (by rfl) (by rfl) ?_ (by with_unfolding_all rfl) (by intro _; with_unfolding_all rfl)))
  k_with "WhlIf" => first | (with_reducible refine WhlIf.no (by with_reducible assumption) ?_) | (with_reducible refine WhlIf.yes (by with_reducible assumption) ?_)
  k_with "exec While Compare cons nil" => (k_here; (with_reducible refine whl_start 100 ?_))
  k_with "call ref nil" => (k_here; (with_reducible show wpAny _ _ (call (Value.ref 151) _) _ _ _); (rename Raises1 _ _ _ _ _ _ _ _ _ _ _ _ _ _ _ => IH9); k_dflt (refine' IH9 _ _ _ _ _ _ _ _ _ _ _ _ _ _ _ _ _ _ _ _ _ _ _ _ dq x _ _ (by k_asm) (by k_asm) (by k_asm) (by k_asm) (by k_asm) (by first | rfl | assumption) (by first | decide | omega | ktr_room) (by first | decide | omega | ktr_units) (by assumption) (by assumption) (by assumption) (by assumption) (by omega) (by omega) (by assumption) (by assumption) (by assumption) (by assumption) ?_; intro h9 tk9 e9 g9 R9 FG9 U9; (try dsimp only); refine' exc_pass (by assumption) FG9 R9 U9 ?_; intro h8 R8 U8; (try dsimp only)))
  intro dp un gd cn cs a ccd cl outer A₀ base h₀ L m news s rd dd tl r nt vs ws i dq x Q E B F X N T hk hd hu hS hat hx hst hi hdq hbad hbd he0 he1 hexc
  obtain ⟨hrd, ⟨ua, ud, hdd⟩, hT⟩ := id hS
  refine wpAny_call ?_
  k_dflt (walk_at "enter")
  k_extra "steps"
  exact hexc _ _ _ _ R8 (by assumption) U8
theorem form_r (w : World) (p : Program) (loose : List Str) (mean : ExcName → Option Value) (mg mb : Str → Option Value) (f : Sf) (ex : Nat) (bad : Nat → Prop) (stop : Str → Prop)
    (IH : Raises1 PySem.Challenge.rw_ui0505_05.row.prog K05 203 44 144 w p loose mean mg mb f ex bad stop) :
    Raises1 PySem.Challenge.rw_ui0505_05.row.prog K05 203 44 130 w p loose mean mg mb f (ex + 2) bad stop := by
  unfold Raises1
  k_fill
  k_with_none
  k_with "steps" => repeat' (first | (k_unfold; (try dsimp only)) | walk1 | (dsimp only; walk1) | (leave1; walk_say "STEP leave1"; try dsimp only) | k_extra "mine")
  k_with "spliced" => first | refine args_cons ?_ | refine args_nil ⟨Fr.keep (by assumption) _ _ (by assumption), ?_⟩ | (refine args_nil ?_; try simp only [List.cons_append, List.nil_append])
  k_with "call builtin:len cons nil" => (k_here; (with_reducible show wpAny _ _ (call (Value.builtin "len") [Value.ref _]) _ _ _); k_dflt (refine' lenL (by k_asm) (by k_mem) (by first | (with_reducible assumption) | (simp only [List.length_append, List.length_map, List.length_cons, List.length_nil]; with_reducible rfl)) (by omega) ?_))
  k_with "call ref cons nil" => (k_here; k_dflt (refine' call_cls (by k_asm) (by k_asm) (by k_asm) (by k_is) (by k_is) (by k_is) ?_; k_whole; intro x' d' h' F' N' l1 l2; (try k_lt l1); (try k_lt2 l2); (try k_sweep); walk_at "enter"))
  k_with "call builtin:list.append cons nil" => (k_here; (with_reducible show wpAny _ _ (call (Value.builtin "list.append") [Value.ref _, _]) _ _ _); k_dflt (refine' appendL (by k_asm) (by k_asm) (by k_upd) (by ((try simp only [List.length_append, List.length_map, List.length_cons, List.length_nil]); omega)) ?_; k_whole); intro h' F' N'; (try k_sweep))
  k_with "subscriptTail Attribute Name Attribute ref int" => (k_here; (with_reducible show wpAny _ _ (subscriptTail _ _ (Value.ref _) (Value.int _ _)) _ _ _); k_dflt (refine' itemL (by k_asm) (by with_reducible assumption) (by k_mem) (by with_reducible rfl) (by omega) ?_ (by with_unfolding_all rfl); k_whole))
  k_with "subscriptTail Subscript Attribute Attribute Constant ref int" => (k_here; (with_reducible show wpAny _ _ (subscriptTail _ _ (Value.ref _) (Value.int _ _)) _ _ _); k_dflt (refine' itemT (by k_asm) (by k_mem) (by decide) (by decide) (by rfl) (by rfl) ?_ (by with_unfolding_all rfl) (by intro _; with_unfolding_all rfl)))
  k_with "WhlIf" => first | (with_reducible refine WhlIf.no (by with_reducible assumption) ?_) | (with_reducible refine WhlIf.yes (by with_reducible assumption) ?_)
  k_with "exec While Compare cons nil" => (k_here; (with_reducible refine whl_start 100 ?_))
  k_with "call ref nil" => (k_here; (with_reducible show wpAny _ _ (call (Value.ref 144) _) _ _ _); (rename Raises1 _ _ _ _ _ _ _ _ _ _ _ _ _ _ _ => IH9); k_dflt (refine' IH9 _ _ _ _ _ _ _ _ _ _ _ _ _ _ _ _ _ _ _ _ _ _ _ _ dq x _ _ (by k_asm) (by k_asm) (by k_asm) (by k_asm) (by k_asm) (by first | rfl | assumption) (by first | decide | omega | ktr_room) (by first | decide | omega | ktr_units) (by assumption) (by assumption) (by assumption) (by assumption) (by omega) (by omega) (by assumption) (by assumption) (by assumption) (by assumption) ?_; intro h9 tk9 e9 g9 R9 FG9 U9; (try dsimp only); refine' exc_pass (by assumption) FG9 R9 U9 ?_; intro h8 R8 U8; (try dsimp only)))
  intro dp un gd cn cs a ccd cl outer A₀ base h₀ L m news s rd dd tl r nt vs ws i dq x Q E B F X N T hk hd hu hS hat hx hst hi hdq hbad hbd he0 he1 hexc
  obtain ⟨hrd, ⟨ua, ud, hdd⟩, hT⟩ := id hS
  refine wpAny_call ?_
  k_dflt (walk_at "enter")
  k_extra "steps"
  exact hexc _ _ _ _ R8 (by assumption) U8
theorem Raises1.or {prog : Program} {K : Params → Frag} {C R fa : Addr} {w : World} {p : Program} {loose : List Str} {mean : ExcName → Option Value} {mg mb : Str → Option Value} {f : Sf} {ex : Nat} {b1 b2 bad : Nat → Prop} {stop : Str → Prop}
    (h1 : Raises1 prog K C R fa w p loose mean mg mb f ex b1 stop) (h2 : Raises1 prog K C R fa w p loose mean mg mb f ex b2 stop) (h : ∀ dq, dq ≤ 80 → bad dq → b1 dq ∨ b2 dq) : Raises1 prog K C R fa w p loose mean mg mb f ex bad stop := by
  unfold Raises1
  intro dp un gd cn cs a ccd cl outer A₀ base h₀ L m news s rd dd tl r nt vs ws i dq x Q E B F X N T hk hd hu hS hat hx hst hi hdq hbad hbd he0 he1 hexc
  rcases h dq hdq hbad with hb | hb
  · exact h1 dp un gd cn cs a ccd cl outer A₀ base h₀ L m news s rd dd tl r nt vs ws i dq x Q E B F X N T hk hd hu hS hat hx hst hi hdq hb hbd he0 he1 hexc
  · exact h2 dp un gd cn cs a ccd cl outer A₀ base h₀ L m news s rd dd tl r nt vs ws i dq x Q E B F X N T hk hd hu hS hat hx hst hi hdq hb hbd he0 he1 hexc
theorem nots_r (w : World) (p : Program) (loose : List Str) (mean : ExcName → Option Value) (mg mb : Str → Option Value) (stop : Str → Prop) : ∀ n : Nat,
    Raises1 PySem.Challenge.rw_ui0505_05.row.prog K05 203 44 165 w p loose mean mg mb (nots n) 2 (fun dq => 80 < dq + n + 1) stop
  | 0 => (simple_rD w p loose mean mg mb .atom 2 (by omega) stop).or (simple_rD w p loose mean mg mb .atom 2 (by omega) stop) (fun dq h1 h2 => .inl (by omega))
  | n + 1 => (simple_rD w p loose mean mg mb (.no (nots n)) 2 (by omega) stop).or (simple_rP w p loose mean mg mb (.no (nots n)) _ stop (sno_r w p loose mean mg mb (nots n) _ stop (nots_r w p loose mean mg mb stop n))) (fun dq h1 h2 => by
      by_cases h : dq = 80
      · exact .inl h
      · exact .inr ⟨by omega, by omega⟩)
/-- implication refuses too many nots -/
theorem nots_impr (w : World) (p : Program) (loose : List Str) (mean : ExcName → Option Value) (mg mb : Str → Option Value) (stop : Str → Prop) (n : Nat) :
    Raises1 PySem.Challenge.rw_ui0505_05.row.prog K05 203 44 144 w p loose mean mg mb (nots n) 8 (fun dq => 80 < dq + n + 1) stop :=
  imp1_r w p loose mean mg mb _ 6 _ stop (disj_r w p loose mean mg mb _ 4 _ stop (conj_r w p loose mean mg mb _ 2 _ stop (nots_r w p loose mean mg mb stop n)))
theorem take_sum : ∀ (cs : List Nat) (i : Nat) (h : i < cs.length), (cs.take (i + 1)).sum = (cs.take i).sum + cs[i]
  | c :: r, 0, _ => by simp
  | c :: r, i + 1, h => by
    have := take_sum r i (by simpa using h)
    simp only [List.take_succ_cons, List.sum_cons, List.getElem_cons_succ] at *
    omega
theorem sum_take : ∀ (cs : List Nat) (i : Nat) (h : i < cs.length), (cs.take i).sum + cs[i] ≤ cs.sum
  | c :: r, 0, _ => by simp
  | c :: r, i + 1, h => by
    have := sum_take r i (by simpa using h)
    simp only [List.take_succ_cons, List.sum_cons, List.getElem_cons_succ] at *
    omega
theorem depth_ok (w : World) (p : Program) (loose : List Str) (mean : ExcName → Option Value) (mg mb : Str → Option Value) :
    ∀ (dp un : Nat) (gd : Option (List Code)) (cn : Str) (cs : Scope) (a : Addr) (ccd : Value) (cl : List (Str × Addr)) (outer : List Env) (A₀ : Around) (base h₀ : Heap) (L : Addr) (m : Str → Option Value) (news : List (Addr × Obj)) (s : Shared) (v : Value) (d c : Nat) (Q E : Value → Shared → Prop),
      Below A₀ base outer h₀ → Fr h₀ L s.heap m → (K05 w.params).In h₀ → News h₀ L s.heap news → Top p loose mean mg mb h₀ → cs.kind = .function → dp + 20 < recursionLimit → un + 160 < cLine →
      DN news v d c → d ≤ 80 → c ≤ 900 →
      (∀ h' tk' k u, Fr h₀ L h' m → News h₀ L h' news → k ≤ 80 → Q (.int k u) { s with heap := h', toks := tk' }) →
      wpAny (model PySem.Challenge.rw_ui0505_05.row.prog w) (ktrTop dp un gd cn cs L a ccd cl outer) (call (.ref 219) [v]) Q E s := by
  k_fill
  k_with_none
  k_with "steps" => repeat' (first | (k_unfold; (try dsimp only)) | walk1 | (dsimp only; walk1) | (leave1; walk_say "STEP leave1"; try dsimp only) | k_extra "mine")
  k_with "spliced" => first | refine args_cons ?_ | refine args_nil ⟨Fr.keep (by assumption) _ _ (by assumption), ?_⟩ | (refine args_nil ?_; try simp only [List.cons_append, List.nil_append])
  k_with "call builtin:len cons nil" => (k_here; (with_reducible show wpAny _ _ (call (Value.builtin "len") [Value.ref _]) _ _ _); k_dflt (refine' lenL (by k_asm) (by k_mem) (by first | (with_reducible assumption) | (simp only [List.length_append, List.length_map, List.length_cons, List.length_nil]; with_reducible rfl)) (by omega) ?_))
  k_with "call ref cons nil" => (k_here; k_dflt (refine' call_cls (by k_asm) (by k_asm) (by k_asm) (by k_is) (by k_is) (by k_is) ?_; k_whole; intro x' d' h' F' N' l1 l2; (try k_lt l1); (try k_lt2 l2); (try k_sweep); walk_at "enter"))
  k_with "call builtin:list.append cons nil" => (k_here; (with_reducible show wpAny _ _ (call (Value.builtin "list.append") [Value.ref _, _]) _ _ _); k_dflt (refine' appendL (by k_asm) (by k_asm) (by k_upd) (by ((try simp only [List.length_append, List.length_map, List.length_cons, List.length_nil]); omega)) ?_; k_whole); intro h' F' N'; (try k_sweep))
  k_with "subscriptTail Attribute Name Attribute ref int" => (k_here; (with_reducible show wpAny _ _ (subscriptTail _ _ (Value.ref _) (Value.int _ _)) _ _ _); k_dflt (refine' itemL (by k_asm) (by with_reducible assumption) (by k_mem) (by with_reducible rfl) (by omega) ?_ (by with_unfolding_all rfl); k_whole))
  k_with "subscriptTail Subscript Attribute Attribute Constant ref int" => (k_here; (with_reducible show wpAny _ _ (subscriptTail _ _ (Value.ref _) (Value.int _ _)) _ _ _); k_dflt (refine' itemT (by k_asm) (by k_mem) (by decide) (by decide) (by rfl) (by rfl) ?_ (by with_unfolding_all rfl) (by intro _; with_unfolding_all rfl)))
  k_with "WhlIf" => first | (with_reducible refine WhlIf.no (by with_reducible assumption) ?_) | (with_reducible refine WhlIf.yes (by with_reducible assumption) ?_)
  k_with "exec While Compare cons nil" => (k_here; (with_reducible refine whl_start 100 ?_))
  k_with "enterC" => (refine' code_defC (by k_asm) (by k_asm) (by k_asm) (by k_asm) (by k_asm) (by exact rfl) (by exact rfl) (by assumption) (by k_is) (by k_is) (by ktr_room) (by first | exact BindsTo.of_eq rfl | exact binds_K (by k_in) rfl (by k_is) rfl rfl rfl) (by exact rfl) (by decide +kernel) ?_ (by exact rfl) (by exact rfl) (by exact rfl); k_whole; intro g' L' h' tk' cells' FG' F' N' Y' B' X' T' l1; (try k_lt l1); k_cells Y'; (try simp only [List.cons_append, List.nil_append] at N'); (try dsimp only); (try k_fold))
  k_with "exec While Compare cons nil" => (k_here; with_reducible refine halt ?_)
  k_with "call builtin:list.pop cons nil" => (k_here; (with_reducible show wpAny _ _ (call (Value.builtin "list.pop") [Value.ref _]) _ _ _); k_dflt (refine' popL (by k_asm) (by k_asm) (by k_upd) (by omega) ?_; k_whole); intro h' F' N'; (try k_sweep))
  k_with "pyIter ref" => (k_here; with_reducible refine halt ?_)
  k_with "exec For Name Name cons nil" => (k_here; (rename Fr _ _ _ _ => lF'); (with_unfolding_all refine' For_invVF lF' (by exact rfl) (by exact rfl) ?_ (by exact fun _ => rfl) (by first | passes_own | with_unfolding_all passes_own)); k_whole)
  k_with "eval ListComp Tuple cons" => (k_here; k_dflt (refine ListComp_Tp (by k_asm) (by with_unfolding_all rfl) (by decide) (by rfl) (by decide) (by rfl) ?_))
  k_with "CompRest" => (with_unfolding_all refine LCg.CompRest.zero ?_)
  k_with "mine" => ((with_reducible show TupSrc _ _ _ _ _ _ _ _ _ _ _ _ _ _); (k_dflt (refine' tupSrc_intro (by rfl) (by k_asm) (by k_asm) (by k_mem) (by first | size_fits | exact Nat.le_of_ble_eq_true rfl) ?_)); intro g'; (try lcg_lit))
  k_with "call builtin:len cons nil" => (k_here; (with_reducible show wpAny _ _ (call (Value.builtin "len") [Value.ref _]) _ _ _); k_dflt (refine' lenT (by k_asm) (by k_mem) (by first | with_reducible assumption | (exact rfl)) (by omega) ?_))
  k_with "call builtin:list.extend cons nil" => (k_here; k_dflt (refine' extNil (by k_asm) (by k_asm) (by k_mem) (by k_upd) (by omega) ?_; intro h' F' N'; (try k_sweep)))
  k_with "subscriptTail Name Constant ref int" => (k_here; k_dflt (refine' item0 (by k_asm) (by k_mem) ?_ (by with_unfolding_all rfl) (by intro _; with_unfolding_all rfl)))
  intro dp un gd cn cs a ccd cl outer A₀ base h₀ L m news s v d c Q E B F X N T hk hd hu hdn hd80 hc hret
  refine wpAny_call ?_
  k_dflt (k_extra "enterC")
  clear F N
  k_extra "steps"
  rename News _ _ _ _ => N1
  rename Fr g' _ _ _ => F1
  rename AllLt _ _ => l3
  unfold Halt
  obtain ⟨o, lo, e9⟩ : ∃ o : Addr, AllLt o news ∧ o = _ := ⟨_, l3, rfl⟩
  subst e9
  refine whl_start 100 ?_
  refine while_by (DInv g' L' o news s) (by first | passes_own | with_unfolding_all passes_own) ?turn 100 c _ (DInv.init F1 N1 rfl rfl rfl (by assumption) (by assumption) (by assumption) l1 (by assumption) hdn hd80 hc)
  case turn =>
    clear F1 N1
    rintro n s' ⟨h, tk, us, nu, oc, vc, rest, mm, k, rfl, F2, hm1, ⟨t2, hm2⟩, hk80, hk0, N2, hcell, ad1, ad2, ad3, hsub, hW, hn⟩
    replace F2 := frc F2 (upm2 hm1 hm2)
    clear hm1 hm2
    rcases List.eq_nil_or_concat us with e | ⟨us3, u3, e⟩
    · subst e
      have hl0 : ([] : List Value).length = 0 := rfl
      k_extra "steps"
      rename Fr h₀ L _ _ => F9
      rename News h₀ L _ _ => N9
      exact hret _ _ _ _ F9 (nsub N9 fun q hq => List.mem_cons_of_mem _ (List.mem_cons_of_mem _ (hsub q hq))) hk80
    · rw [List.concat_eq_append] at e
      subst e
      obtain ⟨m0, c0, hW0, ⟨a0, v0, k0, d0, t0, n0, rfl, ha0, hdn0, hk01, hk02⟩, hmc⟩ := hW.last
      have hl3 : (us3 ++ [Value.ref a0]).length = us3.length + 1 := by simp
      have hcut2 : decide ((0 : Int) < ((us3.length + 1 : Nat) : Int)) = true := decide_eq_true (by omega)
      have hlen0 := hW0.len
      obtain ⟨pa, ps, np, cs9, rfl, hpa, hpl, hsum, hparts⟩ := hdn0.parts hk02
      k_extra "steps"
      rename Fr _ _ _ _ => F3
      rename News _ _ _ _ => N3
      rename Obj.data _ = Data.cell _ => hcd
      unfold Halt
      refine tup_iter (EInv L' o pa ps np rest news k0 t0 _ m0 cs9) (by exact rfl) (List.mem_cons_of_mem _ (List.mem_cons_of_mem _ hpa)) F3 N3 ⟨⟨_, (upm_self _ _).symm⟩, us3, nu + 1, _, rest, rfl, hcd, ad1, ad2, fun q hq => hq, hsub, hpa, by simpa using hW0⟩ ?hlJ ?tt ?dd
      case hlJ =>
        rintro i m nx ⟨_, us, nu, oc, rest', rfl, _, _, _, _, _, hp, _⟩
        exact List.mem_cons_of_mem _ (List.mem_cons_of_mem _ hp)
      case tt =>
        clear F3 N3 hcd hW hW0 ad1 ad2
        rintro i v m₁ nx h tk own hv hown ⟨⟨ov, rfl⟩, us, nu, oc, rest', rfl, hcd, ad1, ad2, hbs, hns, hp, hW⟩ F4 N4
        rw [upm_upm] at F4
        have hi : i < ps.length := (List.getElem?_eq_some_iff.mp hv).1
        have hci : cs9[i]? = some (cs9[i]'(by omega)) := by simp
        have hpt := (hparts i v _ hv hci).mono hbs
        have hulen := hW.len
        have hsle : (cs9.take i).sum + cs9[i] ≤ cs9.sum := sum_take cs9 i (by omega)
        have htk : (cs9.take (i + 1)).sum = (cs9.take i).sum + cs9[i] := take_sum cs9 i (by omega)
        replace N4 : News g' L' h ((o, listOf us.toArray nu) :: (L' + 1, oc) :: (rest' ++ own)) := N4
        have ad4 : ∀ q ∈ rest' ++ own, q.1 ≠ o := fun q hq => (List.mem_append.mp hq).elim (ad1 q) fun h => hown q h _ List.mem_cons_self
        have ad5 : ∀ q ∈ rest' ++ own, @Ne Nat q.1 (L' + 1) := fun q hq => (List.mem_append.mp hq).elim (ad2 q) fun h => hown q h _ (List.mem_cons_of_mem _ List.mem_cons_self)
        rcases hpt with ⟨hc0, y, t, rfl⟩ | ⟨hc0, b, mb, rfl, hb⟩ | ⟨d1, hd1, hk1⟩
        · k_extra "steps"
          rename Fr _ _ _ _ => F9
          rename News _ _ _ _ => N9
          exact eend_same F9 N9 (fun q hq => hq) hcd ad1 ad2 hbs hns hp hW (by omega) hown
        · have hb4 : (b, tupO [] mb) ∈ rest' ++ own := List.mem_append_left _ hb
          k_extra "steps"
          rename Fr _ _ _ _ => F9
          rename News _ _ _ _ => N9
          exact eend_same F9 N9 (fun q hq => List.mem_cons_of_mem _ hq) hcd ad1 ad2 hbs hns hp hW (by omega) hown
        · obtain ⟨b, y, t, qs, nq, rfl, hb, hql⟩ := hd1.head
          have hb4 : (b, tupO (.str y t :: qs) nq) ∈ rest' ++ own := List.mem_append_left _ hb
          have hlq : (Value.str y t :: qs).length = qs.length + 1 := rfl
          have hcut3 : decide ((0 : Int) < ((qs.length + 1 : Nat) : Int)) = true := decide_eq_true (by omega)
          k_extra "steps"
          rename Fr _ _ _ _ => F9
          rename News _ _ _ _ => N9
          exact eend_more F9 N9 rfl hcd ad1 ad2 (by assumption) (by assumption) (by assumption) hbs hns hp hW hd1 hk1 (by omega) hown
      case dd =>
        clear F3 N3 hcd hW hW0 ad1 ad2
        rintro m₁ nx h tk ⟨⟨ov, rfl⟩, us, nu, oc, rest', rfl, hcd, ad1, ad2, hbs, hns, hp, hW⟩ F4 N4
        have htk : (cs9.take ps.length).sum = cs9.sum := by rw [hpl, List.take_length]
        rw [htk] at hW
        have hd0 := hdn0.pos
        k_extra "steps"
        rename Fr _ _ _ _ => F9
        rename News _ _ _ _ => N9
        exact ⟨m0 + cs9.sum, by omega, _, _, us, nu, oc, _, rest', _, _, rfl, F9, rfl, ⟨_, rfl⟩, by split <;> omega, by split <;> omega, N9, hcd, ad1, ad2, ad3, hns, hW, by omega⟩
theorem read_ok (w : World) (p : Program) (loose : List Str) (mean : ExcName → Option Value) (mg mb : Str → Option Value) (f : Sf) (hb : f.Bare) (hdep : f.dep ≤ 80) (hnod : f.nodes ≤ 900) (ex : Nat)
    (IH : Reads1 PySem.Challenge.rw_ui0505_05.row.prog K05 203 130 w p loose mean mg mb f ex 80 (fun x => (((x ≠ Str.ofString "(" ∧ x ≠ Str.ofString "&") ∧ x ≠ Str.ofString "|") ∧ x ≠ Str.ofString "->") ∧ x ≠ Str.ofString "<->")) :
    ∀ (dp un : Nat) (gd : Option (List Code)) (cn : Str) (cs : Scope) (a : Addr) (ccd : Value) (cl : List (Str × Addr)) (outer : List Env) (A₀ : Around) (base h₀ : Heap) (L : Addr) (m : Str → Option Value) (news : List (Addr × Obj)) (s : Shared) (x : Str) (t : Tok) (ws : List (Str × Int)) (Q E : Value → Shared → Prop),
      Below A₀ base outer h₀ → Fr h₀ L s.heap m → (K05 w.params).In h₀ → News h₀ L s.heap news → Top p loose mean mg mb h₀ → cs.kind = .function → dp + f.size + ex + 100 < recursionLimit → un + 4 * f.size + 3 * ex + 900 < cLine →
      Lex x 0 ws → x.length ≤ 900 → ws.length ≤ 800 → At ws 0 f.words → ws.length = f.words.length → f.deep ≤ 80 →
      (∀ h' tk' v news', Fr h₀ L h' m → News h₀ L h' news' → FIs news' v f → Q v { s with heap := h', toks := tk' }) →
      wpAny (model PySem.Challenge.rw_ui0505_05.row.prog w) (ktrTop dp un gd cn cs L a ccd cl outer) (call (.ref 214) [.str x t]) Q E s := by
  k_fill
  k_with_none
  k_with "steps" => repeat' (first | (k_unfold; (try dsimp only)) | walk1 | (dsimp only; walk1) | (leave1; walk_say "STEP leave1"; try dsimp only) | k_extra "mine")
  k_with "spliced" => first | refine args_cons ?_ | refine args_nil ⟨Fr.keep (by assumption) _ _ (by assumption), ?_⟩ | (refine args_nil ?_; try simp only [List.cons_append, List.nil_append])
  k_with "call builtin:len cons nil" => (k_here; (with_reducible show wpAny _ _ (call (Value.builtin "len") [Value.ref _]) _ _ _); k_dflt (refine' lenL (by k_asm) (by k_mem) (by first | (with_reducible assumption) | (simp only [List.length_append, List.length_map, List.length_cons, List.length_nil]; with_reducible rfl)) (by omega) ?_))
  k_with "call ref cons nil" => (k_here; k_dflt (refine' call_cls (by k_asm) (by k_asm) (by k_asm) (by k_is) (by k_is) (by k_is) ?_; k_whole; intro x' d' h' F' N' l1 l2; (try k_lt l1); (try k_lt2 l2); (try k_sweep); walk_at "enter"))
  k_with "call builtin:list.append cons nil" => (k_here; (with_reducible show wpAny _ _ (call (Value.builtin "list.append") [Value.ref _, _]) _ _ _); k_dflt (refine' appendL (by k_asm) (by k_asm) (by k_upd) (by ((try simp only [List.length_append, List.length_map, List.length_cons, List.length_nil]); omega)) ?_; k_whole); intro h' F' N'; (try k_sweep))
  k_with "subscriptTail Attribute Name Attribute ref int" => (k_here; (with_reducible show wpAny _ _ (subscriptTail _ _ (Value.ref _) (Value.int _ _)) _ _ _); k_dflt (refine' itemL (by k_asm) (by with_reducible assumption) (by k_mem) (by with_reducible rfl) (by omega) ?_ (by with_unfolding_all rfl); k_whole))
  k_with "subscriptTail Subscript Attribute Attribute Constant ref int" => (k_here; (with_reducible show wpAny _ _ (subscriptTail _ _ (Value.ref _) (Value.int _ _)) _ _ _); k_dflt (refine' itemT (by k_asm) (by k_mem) (by decide) (by decide) (by rfl) (by rfl) ?_ (by with_unfolding_all rfl) (by intro _; with_unfolding_all rfl)))
  k_with "WhlIf" => first | (with_reducible refine WhlIf.no (by with_reducible assumption) ?_) | (with_reducible refine WhlIf.yes (by with_reducible assumption) ?_)
  k_with "exec While Compare cons nil" => (k_here; (with_reducible refine whl_start 100 ?_))
  k_with "call ref cons nil" => (k_here; (with_reducible show wpAny _ _ (call (Value.ref 203) _) _ _ _); k_dflt (refine' rinit_ok _ _ _ _ _ _ _ _ _ _ _ _ _ _ _ _ _ _ _ _ _ _ _ _ _ _ _ (by k_asm) (by k_asm) (by k_asm) (by k_asm) (by k_asm) (by first | rfl | assumption) (by first | decide | omega | ktr_room) (by first | decide | omega | ktr_units) (by assumption) (by assumption) (by assumption) ?_; intro h' tk' rd dd tl r nt vs news' F' N' K' S' hen'; (have hrd' := S'.hrd); (obtain ⟨ua', ud', hdd'⟩ := S'.hdd); (have hT' := S'.tk); (try k_sweep); (try dsimp only)))
  k_with "call ref nil" => (k_here; (with_reducible show wpAny _ _ (call (Value.ref 130) _) _ _ _); (rename Reads1 _ _ _ _ _ _ _ _ _ _ _ _ _ _ => IH9); k_dflt (refine' IH9 _ _ _ _ _ _ _ _ _ _ _ _ _ _ _ _ _ _ _ _ _ _ _ _ 0 _ _ _ (by k_asm) (by k_asm) (by k_asm) (by k_asm) (by k_asm) (by first | rfl | assumption) (by first | decide | omega | ktr_room) (by first | decide | omega | ktr_units) (by assumption) (by assumption) (by assumption) (by decide) (by omega) (by omega) ?_; intro h' tk' v' news' F' N' K' S' f'; (have hrd' := S'.hrd); (obtain ⟨ua', ud', hdd'⟩ := S'.hdd); (have hT' := S'.tk); (try k_sweep); (try dsimp only)))
  k_with "call ref nil" => (k_here; (with_reducible show wpAny _ _ (call (Value.ref 200) _) _ _ _); k_dflt (refine' finish_ok _ _ _ _ _ _ _ _ _ _ _ _ _ _ _ _ _ _ _ _ _ _ _ _ _ _ _ _ _ _ _ _ _ (by k_asm) (by k_asm) (by k_asm) (by k_asm) (by k_asm) (by first | rfl | assumption) (by first | decide | omega | ktr_room) (by first | decide | omega | ktr_units) (by assumption) (by assumption) (by omega) ?_; intro h' tk' F' N'; (try k_sweep); (try dsimp only)))
  k_with "call ref cons nil" => (k_here; (with_reducible show wpAny _ _ (call (Value.ref 219) _) _ _ _); (rename FIs _ _ _ => f9); k_dflt (refine' depth_ok _ _ _ _ _ _ _ _ _ _ _ _ _ _ _ _ _ _ _ _ _ _ _ _ _ _ _ (by k_asm) (by k_asm) (by k_asm) (by k_asm) (by k_asm) (by first | rfl | assumption) (by first | decide | omega | ktr_room) (by first | decide | omega | ktr_units) (f9.dn2 hb) (by assumption) (by assumption) ?_; intro h' tk' k' u' F' N' hk80'; (try k_sweep); (try dsimp only); (have hcut9 : decide ((80 : Int) < k') = false := decide_eq_false (by omega))))
  k_with "call ref nil" => (k_here; (with_reducible show wpAny _ _ (call (Value.ref 130) _) _ _ _); (rename Raises1 _ _ _ _ _ _ _ _ _ _ _ _ _ _ _ => IH9); k_dflt (refine' IH9 _ _ _ _ _ _ _ _ _ _ _ _ _ _ _ _ _ _ _ _ _ _ _ _ 0 _ _ _ (by k_asm) (by k_asm) (by k_asm) (by k_asm) (by k_asm) (by first | rfl | assumption) (by first | decide | omega | ktr_room) (by first | decide | omega | ktr_units) (by assumption) (by assumption) (by assumption) (by assumption) (by omega) (by omega) (by assumption) (by assumption) (by omega) (by omega) ?_; intro h9 tk9 e9 g9 R9 FG9 U9; (try dsimp only); refine' exc_pass (by assumption) FG9 R9 U9 ?_; intro h8 R8 U8; (try dsimp only)))
  intro dp un gd cn cs a ccd cl outer A₀ base h₀ L m news s x t ws Q E B F X N T hk hd hu hlex hxl hwl hat hwe hfd hret
  have hend : wordAt ws (0 + f.words.length) = Str.ofString "" := by rw [Nat.zero_add]; exact wordAt_end hwe
  have hwl9 : ws.length ≤ 900 := by omega
  refine wpAny_call ?_
  k_dflt (walk_at "enter")
  k_extra "steps"
  rename Fr h₀ L _ _ => F9
  rename News h₀ L _ _ => N9
  exact hret _ _ _ _ F9 N9 (by assumption)
theorem read_r (w : World) (p : Program) (loose : List Str) (mean : ExcName → Option Value) (mg mb : Str → Option Value) (f : Sf) (ex : Nat) (bad : Nat → Prop) (hbad : bad 0) (stop : Str → Prop) (hst : stop (Str.ofString ""))
    (IH : Raises1 PySem.Challenge.rw_ui0505_05.row.prog K05 203 44 130 w p loose mean mg mb f ex bad stop) :
    ∀ (dp un : Nat) (gd : Option (List Code)) (cn : Str) (cs : Scope) (a : Addr) (ccd : Value) (cl : List (Str × Addr)) (outer : List Env) (A₀ : Around) (base h₀ : Heap) (L : Addr) (m : Str → Option Value) (news : List (Addr × Obj)) (s : Shared) (x : Str) (t : Tok) (ws : List (Str × Int)) (Q E : Value → Shared → Prop),
      Below A₀ base outer h₀ → Fr h₀ L s.heap m → (K05 w.params).In h₀ → News h₀ L s.heap news → Top p loose mean mg mb h₀ → cs.kind = .function → dp + ex + 400 < recursionLimit → un + 3 * ex + 1800 < cLine →
      Lex x 0 ws → x.length ≤ 900 → ws.length ≤ 800 → At ws 0 f.words → ws.length = f.words.length →
      (∀ h' tk' e g, Flies base (envX cn cs L a ccd cl :: outer) e 44 h' → Fr h₀ L g m → g.UpToSlots h' → E (.ref e) { s with heap := h', toks := tk' }) →
      wpAny (model PySem.Challenge.rw_ui0505_05.row.prog w) (ktrTop dp un gd cn cs L a ccd cl outer) (call (.ref 214) [.str x t]) Q E s := by
  k_fill
  k_with_none
  k_with "steps" => repeat' (first | (k_unfold; (try dsimp only)) | walk1 | (dsimp only; walk1) | (leave1; walk_say "STEP leave1"; try dsimp only) | k_extra "mine")
  k_with "spliced" => first | refine args_cons ?_ | refine args_nil ⟨Fr.keep (by assumption) _ _ (by assumption), ?_⟩ | (refine args_nil ?_; try simp only [List.cons_append, List.nil_append])
  k_with "call builtin:len cons nil" => (k_here; (with_reducible show wpAny _ _ (call (Value.builtin "len") [Value.ref _]) _ _ _); k_dflt (refine' lenL (by k_asm) (by k_mem) (by first | (with_reducible assumption) | (simp only [List.length_append, List.length_map, List.length_cons, List.length_nil]; with_reducible rfl)) (by omega) ?_))
  k_with "call ref cons nil" => (k_here; k_dflt (refine' call_cls (by k_asm) (by k_asm) (by k_asm) (by k_is) (by k_is) (by k_is) ?_; k_whole; intro x' d' h' F' N' l1 l2; (try k_lt l1); (try k_lt2 l2); (try k_sweep); walk_at "enter"))
  k_with "call builtin:list.append cons nil" => (k_here; (with_reducible show wpAny _ _ (call (Value.builtin "list.append") [Value.ref _, _]) _ _ _); k_dflt (refine' appendL (by k_asm) (by k_asm) (by k_upd) (by ((try simp only [List.length_append, List.length_map, List.length_cons, List.length_nil]); omega)) ?_; k_whole); intro h' F' N'; (try k_sweep))
  k_with "subscriptTail Attribute Name Attribute ref int" => (k_here; (with_reducible show wpAny _ _ (subscriptTail _ _ (Value.ref _) (Value.int _ _)) _ _ _); k_dflt (refine' itemL (by k_asm) (by with_reducible assumption) (by k_mem) (by with_reducible rfl) (by omega) ?_ (by with_unfolding_all rfl); k_whole))
  k_with "subscriptTail Subscript Attribute Attribute Constant ref int" => (k_here; (with_reducible show wpAny _ _ (subscriptTail _ _ (Value.ref _) (Value.int _ _)) _ _ _); k_dflt (refine' itemT (by k_asm) (by k_mem) (by decide) (by decide) (by rfl) (by rfl) ?_ (by with_unfolding_all rfl) (by intro _; with_unfolding_all rfl)))
  k_with "WhlIf" => first | (with_reducible refine WhlIf.no (by with_reducible assumption) ?_) | (with_reducible refine WhlIf.yes (by with_reducible assumption) ?_)
  k_with "exec While Compare cons nil" => (k_here; (with_reducible refine whl_start 100 ?_))
  k_with "call ref cons nil" => (k_here; (with_reducible show wpAny _ _ (call (Value.ref 203) _) _ _ _); k_dflt (refine' rinit_ok _ _ _ _ _ _ _ _ _ _ _ _ _ _ _ _ _ _ _ _ _ _ _ _ _ _ _ (by k_asm) (by k_asm) (by k_asm) (by k_asm) (by k_asm) (by first | rfl | assumption) (by first | decide | omega | ktr_room) (by first | decide | omega | ktr_units) (by assumption) (by assumption) (by assumption) ?_; intro h' tk' rd dd tl r nt vs news' F' N' K' S' hen'; (have hrd' := S'.hrd); (obtain ⟨ua', ud', hdd'⟩ := S'.hdd); (have hT' := S'.tk); (try k_sweep); (try dsimp only)))
  k_with "call ref nil" => (k_here; (with_reducible show wpAny _ _ (call (Value.ref 130) _) _ _ _); (rename Reads1 _ _ _ _ _ _ _ _ _ _ _ _ _ _ => IH9); k_dflt (refine' IH9 _ _ _ _ _ _ _ _ _ _ _ _ _ _ _ _ _ _ _ _ _ _ _ _ 0 _ _ _ (by k_asm) (by k_asm) (by k_asm) (by k_asm) (by k_asm) (by first | rfl | assumption) (by first | decide | omega | ktr_room) (by first | decide | omega | ktr_units) (by assumption) (by assumption) (by assumption) (by decide) (by omega) (by omega) ?_; intro h' tk' v' news' F' N' K' S' f'; (have hrd' := S'.hrd); (obtain ⟨ua', ud', hdd'⟩ := S'.hdd); (have hT' := S'.tk); (try k_sweep); (try dsimp only)))
  k_with "call ref nil" => (k_here; (with_reducible show wpAny _ _ (call (Value.ref 200) _) _ _ _); k_dflt (refine' finish_ok _ _ _ _ _ _ _ _ _ _ _ _ _ _ _ _ _ _ _ _ _ _ _ _ _ _ _ _ _ _ _ _ _ (by k_asm) (by k_asm) (by k_asm) (by k_asm) (by k_asm) (by first | rfl | assumption) (by first | decide | omega | ktr_room) (by first | decide | omega | ktr_units) (by assumption) (by assumption) (by omega) ?_; intro h' tk' F' N'; (try k_sweep); (try dsimp only)))
  k_with "call ref cons nil" => (k_here; (with_reducible show wpAny _ _ (call (Value.ref 219) _) _ _ _); (rename FIs _ _ _ => f9); k_dflt (refine' depth_ok _ _ _ _ _ _ _ _ _ _ _ _ _ _ _ _ _ _ _ _ _ _ _ _ _ _ _ (by k_asm) (by k_asm) (by k_asm) (by k_asm) (by k_asm) (by first | rfl | assumption) (by first | decide | omega | ktr_room) (by first | decide | omega | ktr_units) (f9.dn2 hb) (by assumption) (by assumption) ?_; intro h' tk' k' u' F' N' hk80'; (try k_sweep); (try dsimp only); (have hcut9 : decide ((80 : Int) < k') = false := decide_eq_false (by omega))))
  k_with "call ref nil" => (k_here; (with_reducible show wpAny _ _ (call (Value.ref 130) _) _ _ _); (rename Raises1 _ _ _ _ _ _ _ _ _ _ _ _ _ _ _ => IH9); k_dflt (refine' IH9 _ _ _ _ _ _ _ _ _ _ _ _ _ _ _ _ _ _ _ _ _ _ _ _ 0 _ _ _ (by k_asm) (by k_asm) (by k_asm) (by k_asm) (by k_asm) (by first | rfl | assumption) (by first | decide | omega | ktr_room) (by first | decide | omega | ktr_units) (by assumption) (by assumption) (by assumption) (by assumption) (by omega) (by omega) (by assumption) (by assumption) (by omega) (by omega) ?_; intro h9 tk9 e9 g9 R9 FG9 U9; (try dsimp only); refine' exc_pass (by assumption) FG9 R9 U9 ?_; intro h8 R8 U8; (try dsimp only)))
  intro dp un gd cn cs a ccd cl outer A₀ base h₀ L m news s x t ws Q E B F X N T hk hd hu hlex hxl hwl hat hwe hexc
  have hend : wordAt ws (0 + f.words.length) = Str.ofString "" := by rw [Nat.zero_add]; exact wordAt_end hwe
  have hwl9 : ws.length ≤ 900 := by omega
  have hbd : ∀ y ∈ ws, 0 ≤ y.2 ∧ y.2 ≤ 1000 := fun y hy => ⟨(hlex.bound y hy).1, by have := (hlex.bound y hy).2; omega⟩
  refine wpAny_call ?_
  k_dflt (walk_at "enter")
  k_extra "steps"
  exact hexc _ _ _ _ R8 (by assumption) U8
section
variable {prog : Program} {w : World} {h₀ : Heap} {L : Addr} {m : Str → Option Value} {A : Around} {E : Value → Shared → Prop} {s : Shared} {x : Str} {t : Tok} {Q : Value → Shared → Prop}
def binders : List PyData := [.str (Str.ofString "all"), .str (Str.ofString "some")]
theorem in_binders (b : Bool) (F : Fr h₀ L s.heap m) (X : (K05 w.params).In h₀) (hx : PyData.strOk x = true) (hb : (binders.any fun y => PyData.eqv y (.str x)) = b) (hu : A.units + 64 < cLine) (h : Q (.bool b) s) :
    wpAny (model prog w) A (compareOp .In (.str x t) (.ref 52)) Q E s := by
  have r : Reads s.heap (.ref 52) (.tuple binders) _ := reads_tuple_at (F.keep _ _ (X 52 _ rfl)) rfl rfl (.cons (.str _ _) (.cons (.str _ _) .nil))
  refine SeqAt.in_tuple_reads r (Reads.str x t) (by decide +kernel) (by simpa [PyData.canLay0] using hx) ?_ (by rw [hb]; exact h)
  have : PyData.depthAll binders ≤ 1 := by decide +kernel
  omega
end
/-- as it is shown -/
def Sf.text : Sf → Str
  | atom => Str.ofString "P"
  | no f => Str.ofString "~" ++ f.text
  | imp f g => f.text ++ Str.ofString " -> " ++ g.text
  | _ => Str.ofString ""
def Shows (w : World) (p : Program) (loose : List Str) (mean : ExcName → Option Value) (mg mb : Str → Option Value) (f : Sf) (ok : Int → Prop) : Prop :=
    ∀ (dp un : Nat) (gd : Option (List Code)) (cn : Str) (cs : Scope) (a : Addr) (ccd : Value) (cl : List (Str × Addr)) (outer : List Env) (A₀ : Around) (base h₀ : Heap) (L : Addr) (m : Str → Option Value) (news : List (Addr × Obj)) (s : Shared) (v : Value) (lv : Int) (tl : Tok) (b : Bool) (Q E : Value → Shared → Prop),
      Below A₀ base outer h₀ → Fr h₀ L s.heap m → (K05 w.params).In h₀ → News h₀ L s.heap news → Top p loose mean mg mb h₀ → cs.kind = .function → dp + 2 * f.dep + 60 < recursionLimit → un + 8 * f.dep + 400 < cLine →
      FIs news v f → ok lv → f.text.length ≤ 1000 →
      (∀ h' tk' u, Fr h₀ L h' m → News h₀ L h' news → Q (.str f.text u) { s with heap := h', toks := tk' }) →
      wpAny (model PySem.Challenge.rw_ui0505_05.row.prog w) (ktrTop dp un gd cn cs L a ccd cl outer) (call (.ref 233) [v, .int lv tl, .bool b]) Q E s
theorem show_atom (w : World) (p : Program) (loose : List Str) (mean : ExcName → Option Value) (mg mb : Str → Option Value) : Shows w p loose mean mg mb .atom (fun _ => True) := by
  unfold Shows
  k_fill
  k_with_none
  k_with "steps" => repeat' (first | (k_unfold; (try dsimp only)) | walk1 | (dsimp only; walk1) | (leave1; walk_say "STEP leave1"; try dsimp only) | k_extra "mine")
  k_with "spliced" => first | refine args_cons ?_ | refine args_nil ⟨Fr.keep (by assumption) _ _ (by assumption), ?_⟩ | (refine args_nil ?_; try simp only [List.cons_append, List.nil_append])
  k_with "call builtin:len cons nil" => (k_here; (with_reducible show wpAny _ _ (call (Value.builtin "len") [Value.ref _]) _ _ _); k_dflt (refine' lenL (by k_asm) (by k_mem) (by first | (with_reducible assumption) | (simp only [List.length_append, List.length_map, List.length_cons, List.length_nil]; with_reducible rfl)) (by omega) ?_))
  k_with "call ref cons nil" => (k_here; k_dflt (refine' call_cls (by k_asm) (by k_asm) (by k_asm) (by k_is) (by k_is) (by k_is) ?_; k_whole; intro x' d' h' F' N' l1 l2; (try k_lt l1); (try k_lt2 l2); (try k_sweep); walk_at "enter"))
  k_with "call builtin:list.append cons nil" => (k_here; (with_reducible show wpAny _ _ (call (Value.builtin "list.append") [Value.ref _, _]) _ _ _); k_dflt (refine' appendL (by k_asm) (by k_asm) (by k_upd) (by ((try simp only [List.length_append, List.length_map, List.length_cons, List.length_nil]); omega)) ?_; k_whole); intro h' F' N'; (try k_sweep))
  k_with "subscriptTail Attribute Name Attribute ref int" => (k_here; (with_reducible show wpAny _ _ (subscriptTail _ _ (Value.ref _) (Value.int _ _)) _ _ _); k_dflt (refine' itemL (by k_asm) (by with_reducible assumption) (by k_mem) (by with_reducible rfl) (by omega) ?_ (by with_unfolding_all rfl); k_whole))
  k_with "subscriptTail Subscript Attribute Attribute Constant ref int" => (k_here; (with_reducible show wpAny _ _ (subscriptTail _ _ (Value.ref _) (Value.int _ _)) _ _ _); k_dflt (refine' itemT (by k_asm) (by k_mem) (by decide) (by decide) (by rfl) (by rfl) ?_ (by with_unfolding_all rfl) (by intro _; with_unfolding_all rfl)))
  k_with "WhlIf" => first | (with_reducible refine WhlIf.no (by with_reducible assumption) ?_) | (with_reducible refine WhlIf.yes (by with_reducible assumption) ?_)
  k_with "exec While Compare cons nil" => (k_here; (with_reducible refine whl_start 100 ?_))
  k_with "subscriptTail Name Constant ref int" => (k_here; (with_reducible show wpAny _ _ (subscriptTail _ _ (Value.ref _) (Value.int _ _)) _ _ _); k_dflt (refine' itemT (by k_asm) (by k_mem) (by decide) (by decide) (by rfl) (by rfl) ?_ (by with_unfolding_all rfl) (by intro _; with_unfolding_all rfl)))
  k_with "call builtin:len cons nil" => (k_here; (with_reducible show wpAny _ _ (call (Value.builtin "len") [Value.ref _]) _ _ _); k_dflt (refine' lenT (by k_asm) (by k_mem) (by first | with_reducible assumption | (exact rfl)) (by omega) ?_))
  k_with "call ref cons nil" => (k_here; (with_reducible show wpAny _ _ (call (Value.ref 233) _) _ _ _); k_dflt (refine' IH _ _ _ _ _ _ _ _ _ _ _ _ _ _ _ _ _ _ _ _ _ _ (by k_asm) (by k_asm) (by k_asm) (by k_asm) (by k_asm) (by first | rfl | assumption) (by first | decide | omega | ktr_room) (by first | decide | omega | ktr_units) (by assumption) (by assumption) (by assumption) ?_; intro h' tk' u' F' N'; (try k_sweep); (try dsimp only)))
  k_with "call ref cons nil" => (k_here; (with_reducible show wpAny _ _ (call (Value.ref 233) _) _ _ _); k_dflt (refine' IHf _ _ _ _ _ _ _ _ _ _ _ _ _ _ _ _ _ _ _ _ _ _ (by k_asm) (by k_asm) (by k_asm) (by k_asm) (by k_asm) (by first | rfl | assumption) (by first | decide | omega | ktr_room) (by first | decide | omega | ktr_units) (by assumption) (by assumption) (by assumption) ?_; intro h' tk' u' F' N'; (try k_sweep); (try dsimp only)))
  k_with "call ref cons nil" => (k_here; (with_reducible show wpAny _ _ (call (Value.ref 233) _) _ _ _); k_dflt (refine' IHg _ _ _ _ _ _ _ _ _ _ _ _ _ _ _ _ _ _ _ _ _ _ (by k_asm) (by k_asm) (by k_asm) (by k_asm) (by k_asm) (by first | rfl | assumption) (by first | decide | omega | ktr_room) (by first | decide | omega | ktr_units) (by assumption) (by assumption) (by assumption) ?_; intro h' tk' u' F' N'; (try k_sweep); (try dsimp only)))
  k_with "compareOp In str ref" => (k_here; k_dflt (first | (refine' in_binders false (by k_asm) (by k_asm) (by decide +kernel) (by decide +kernel) (by first | omega | ktr_units) ?_) | (refine' in_binders true (by k_asm) (by k_asm) (by decide +kernel) (by decide +kernel) (by first | omega | ktr_units) ?_)))
  intro dp un gd cn cs a ccd cl outer A₀ base h₀ L m news s v lv tl b Q E B F X N T hk hd hu hf hok hlen hret
  cases hf with
  | atom h1 h2 =>
    have hl0 : ([] : List Value).length = 0 := rfl
    refine wpAny_call ?_
    k_dflt (walk_at "enter")
    k_extra "steps"
    rename Fr h₀ L _ _ => F9
    rename News h₀ L _ _ => N9
    exact hret _ _ _ F9 N9
theorem show_no (w : World) (p : Program) (loose : List Str) (mean : ExcName → Option Value) (mg mb : Str → Option Value) (f : Sf) (ok : Int → Prop) (h5 : ok 5) (IH : Shows w p loose mean mg mb f ok) : Shows w p loose mean mg mb (.no f) (fun _ => True) := by
  unfold Shows
  k_fill
  k_with_none
  k_with "steps" => repeat' (first | (k_unfold; (try dsimp only)) | walk1 | (dsimp only; walk1) | (leave1; walk_say "STEP leave1"; try dsimp only) | k_extra "mine")
  k_with "spliced" => first | refine args_cons ?_ | refine args_nil ⟨Fr.keep (by assumption) _ _ (by assumption), ?_⟩ | (refine args_nil ?_; try simp only [List.cons_append, List.nil_append])
  k_with "call builtin:len cons nil" => (k_here; (with_reducible show wpAny _ _ (call (Value.builtin "len") [Value.ref _]) _ _ _); k_dflt (refine' lenL (by k_asm) (by k_mem) (by first | (with_reducible assumption) | (simp only [List.length_append, List.length_map, List.length_cons, List.length_nil]; with_reducible rfl)) (by omega) ?_))
  k_with "call ref cons nil" => (k_here; k_dflt (refine' call_cls (by k_asm) (by k_asm) (by k_asm) (by k_is) (by k_is) (by k_is) ?_; k_whole; intro x' d' h' F' N' l1 l2; (try k_lt l1); (try k_lt2 l2); (try k_sweep); walk_at "enter"))
  k_with "call builtin:list.append cons nil" => (k_here; (with_reducible show wpAny _ _ (call (Value.builtin "list.append") [Value.ref _, _]) _ _ _); k_dflt (refine' appendL (by k_asm) (by k_asm) (by k_upd) (by ((try simp only [List.length_append, List.length_map, List.length_cons, List.length_nil]); omega)) ?_; k_whole); intro h' F' N'; (try k_sweep))
  k_with "subscriptTail Attribute Name Attribute ref int" => (k_here; (with_reducible show wpAny _ _ (subscriptTail _ _ (Value.ref _) (Value.int _ _)) _ _ _); k_dflt (refine' itemL (by k_asm) (by with_reducible assumption) (by k_mem) (by with_reducible rfl) (by omega) ?_ (by with_unfolding_all rfl); k_whole))
  k_with "subscriptTail Subscript Attribute Attribute Constant ref int" => (k_here; (with_reducible show wpAny _ _ (subscriptTail _ _ (Value.ref _) (Value.int _ _)) _ _ _); k_dflt (refine' itemT (by k_asm) (by k_mem) (by decide) (by decide) (by rfl) (by rfl) ?_ (by with_unfolding_all rfl) (by intro _; with_unfolding_all rfl)))
  k_with "WhlIf" => first | (with_reducible refine WhlIf.no (by with_reducible assumption) ?_) | (with_reducible refine WhlIf.yes (by with_reducible assumption) ?_)
  k_with "exec While Compare cons nil" => (k_here; (with_reducible refine whl_start 100 ?_))
  k_with "subscriptTail Name Constant ref int" => (k_here; (with_reducible show wpAny _ _ (subscriptTail _ _ (Value.ref _) (Value.int _ _)) _ _ _); k_dflt (refine' itemT (by k_asm) (by k_mem) (by decide) (by decide) (by rfl) (by rfl) ?_ (by with_unfolding_all rfl) (by intro _; with_unfolding_all rfl)))
  k_with "call builtin:len cons nil" => (k_here; (with_reducible show wpAny _ _ (call (Value.builtin "len") [Value.ref _]) _ _ _); k_dflt (refine' lenT (by k_asm) (by k_mem) (by first | with_reducible assumption | (exact rfl)) (by omega) ?_))
  k_with "call ref cons nil" => (k_here; (with_reducible show wpAny _ _ (call (Value.ref 233) _) _ _ _); k_dflt (refine' IH _ _ _ _ _ _ _ _ _ _ _ _ _ _ _ _ _ _ _ _ _ _ (by k_asm) (by k_asm) (by k_asm) (by k_asm) (by k_asm) (by first | rfl | assumption) (by first | decide | omega | ktr_room) (by first | decide | omega | ktr_units) (by assumption) (by assumption) (by assumption) ?_; intro h' tk' u' F' N'; (try k_sweep); (try dsimp only)))
  k_with "call ref cons nil" => (k_here; (with_reducible show wpAny _ _ (call (Value.ref 233) _) _ _ _); k_dflt (refine' IHf _ _ _ _ _ _ _ _ _ _ _ _ _ _ _ _ _ _ _ _ _ _ (by k_asm) (by k_asm) (by k_asm) (by k_asm) (by k_asm) (by first | rfl | assumption) (by first | decide | omega | ktr_room) (by first | decide | omega | ktr_units) (by assumption) (by assumption) (by assumption) ?_; intro h' tk' u' F' N'; (try k_sweep); (try dsimp only)))
  k_with "call ref cons nil" => (k_here; (with_reducible show wpAny _ _ (call (Value.ref 233) _) _ _ _); k_dflt (refine' IHg _ _ _ _ _ _ _ _ _ _ _ _ _ _ _ _ _ _ _ _ _ _ (by k_asm) (by k_asm) (by k_asm) (by k_asm) (by k_asm) (by first | rfl | assumption) (by first | decide | omega | ktr_room) (by first | decide | omega | ktr_units) (by assumption) (by assumption) (by assumption) ?_; intro h' tk' u' F' N'; (try k_sweep); (try dsimp only)))
  k_with "compareOp In str ref" => (k_here; k_dflt (first | (refine' in_binders false (by k_asm) (by k_asm) (by decide +kernel) (by decide +kernel) (by first | omega | ktr_units) ?_) | (refine' in_binders true (by k_asm) (by k_asm) (by decide +kernel) (by decide +kernel) (by first | omega | ktr_units) ?_)))
  intro dp un gd cn cs a ccd cl outer A₀ base h₀ L m news s v lv tl b Q E B F X N T hk hd hu hf hok hlen hret
  simp only [Sf.dep] at hd hu
  have hlen0 : (Str.ofString "~" ++ f.text).length ≤ 1000 := hlen
  have hlen1 : f.text.length ≤ 1000 := Nat.le_trans (by rw [Str.length_append]; omega) hlen0
  cases hf with
  | no h1 h2 =>
    refine wpAny_call ?_
    k_dflt (walk_at "enter")
    k_extra "steps"
    rename Fr h₀ L _ _ => F9
    rename News h₀ L _ _ => N9
    exact hret _ _ _ F9 N9
theorem show_imp (w : World) (p : Program) (loose : List Str) (mean : ExcName → Option Value) (mg mb : Str → Option Value) (f g : Sf) (ok ok2 : Int → Prop) (h3 : ok 3) (h2 : ok2 2) (IHf : Shows w p loose mean mg mb f ok) (IHg : Shows w p loose mean mg mb g ok2) : Shows w p loose mean mg mb (.imp f g) (fun lv => lv ≤ 2) := by
  unfold Shows
  k_fill
  k_with_none
  k_with "steps" => repeat' (first | (k_unfold; (try dsimp only)) | walk1 | (dsimp only; walk1) | (leave1; walk_say "STEP leave1"; try dsimp only) | k_extra "mine")
  k_with "spliced" => first | refine args_cons ?_ | refine args_nil ⟨Fr.keep (by assumption) _ _ (by assumption), ?_⟩ | (refine args_nil ?_; try simp only [List.cons_append, List.nil_append])
  k_with "call builtin:len cons nil" => (k_here; (with_reducible show wpAny _ _ (call (Value.builtin "len") [Value.ref _]) _ _ _); k_dflt (refine' lenL (by k_asm) (by k_mem) (by first | (with_reducible assumption) | (simp only [List.length_append, List.length_map, List.length_cons, List.length_nil]; with_reducible rfl)) (by omega) ?_))
  k_with "call ref cons nil" => (k_here; k_dflt (refine' call_cls (by k_asm) (by k_asm) (by k_asm) (by k_is) (by k_is) (by k_is) ?_; k_whole; intro x' d' h' F' N' l1 l2; (try k_lt l1); (try k_lt2 l2); (try k_sweep); walk_at "enter"))
  k_with "call builtin:list.append cons nil" => (k_here; (with_reducible show wpAny _ _ (call (Value.builtin "list.append") [Value.ref _, _]) _ _ _); k_dflt (refine' appendL (by k_asm) (by k_asm) (by k_upd) (by ((try simp only [List.length_append, List.length_map, List.length_cons, List.length_nil]); omega)) ?_; k_whole); intro h' F' N'; (try k_sweep))
  k_with "subscriptTail Attribute Name Attribute ref int" => (k_here; (with_reducible show wpAny _ _ (subscriptTail _ _ (Value.ref _) (Value.int _ _)) _ _ _); k_dflt (refine' itemL (by k_asm) (by with_reducible assumption) (by k_mem) (by with_reducible rfl) (by omega) ?_ (by with_unfolding_all rfl); k_whole))
  k_with "subscriptTail Subscript Attribute Attribute Constant ref int" => (k_here; (with_reducible show wpAny _ _ (subscriptTail _ _ (Value.ref _) (Value.int _ _)) _ _ _); k_dflt (refine' itemT (by k_asm) (by k_mem) (by decide) (by decide) (by rfl) (by rfl) ?_ (by with_unfolding_all rfl) (by intro _; with_unfolding_all rfl)))
  k_with "WhlIf" => first | (with_reducible refine WhlIf.no (by with_reducible assumption) ?_) | (with_reducible refine WhlIf.yes (by with_reducible assumption) ?_)
  k_with "exec While Compare cons nil" => (k_here; (with_reducible refine whl_start 100 ?_))
  k_with "subscriptTail Name Constant ref int" => (k_here; (with_reducible show wpAny _ _ (subscriptTail _ _ (Value.ref _) (Value.int _ _)) _ _ _); k_dflt (refine' itemT (by k_asm) (by k_mem) (by decide) (by decide) (by rfl) (by rfl) ?_ (by with_unfolding_all rfl) (by intro _; with_unfolding_all rfl)))
  k_with "call builtin:len cons nil" => (k_here; (with_reducible show wpAny _ _ (call (Value.builtin "len") [Value.ref _]) _ _ _); k_dflt (refine' lenT (by k_asm) (by k_mem) (by first | with_reducible assumption | (exact rfl)) (by omega) ?_))
  k_with "call ref cons nil" => (k_here; (with_reducible show wpAny _ _ (call (Value.ref 233) _) _ _ _); k_dflt (refine' IH _ _ _ _ _ _ _ _ _ _ _ _ _ _ _ _ _ _ _ _ _ _ (by k_asm) (by k_asm) (by k_asm) (by k_asm) (by k_asm) (by first | rfl | assumption) (by first | decide | omega | ktr_room) (by first | decide | omega | ktr_units) (by assumption) (by assumption) (by assumption) ?_; intro h' tk' u' F' N'; (try k_sweep); (try dsimp only)))
  k_with "call ref cons nil" => (k_here; (with_reducible show wpAny _ _ (call (Value.ref 233) _) _ _ _); k_dflt (refine' IHf _ _ _ _ _ _ _ _ _ _ _ _ _ _ _ _ _ _ _ _ _ _ (by k_asm) (by k_asm) (by k_asm) (by k_asm) (by k_asm) (by first | rfl | assumption) (by first | decide | omega | ktr_room) (by first | decide | omega | ktr_units) (by assumption) (by assumption) (by assumption) ?_; intro h' tk' u' F' N'; (try k_sweep); (try dsimp only)))
  k_with "call ref cons nil" => (k_here; (with_reducible show wpAny _ _ (call (Value.ref 233) _) _ _ _); k_dflt (refine' IHg _ _ _ _ _ _ _ _ _ _ _ _ _ _ _ _ _ _ _ _ _ _ (by k_asm) (by k_asm) (by k_asm) (by k_asm) (by k_asm) (by first | rfl | assumption) (by first | decide | omega | ktr_room) (by first | decide | omega | ktr_units) (by assumption) (by assumption) (by assumption) ?_; intro h' tk' u' F' N'; (try k_sweep); (try dsimp only)))
  k_with "compareOp In str ref" => (k_here; k_dflt (first | (refine' in_binders false (by k_asm) (by k_asm) (by decide +kernel) (by decide +kernel) (by first | omega | ktr_units) ?_) | (refine' in_binders true (by k_asm) (by k_asm) (by decide +kernel) (by decide +kernel) (by first | omega | ktr_units) ?_)))
  intro dp un gd cn cs a ccd cl outer A₀ base h₀ L m news s v lv tl b Q E B F X N T hk hd hu hf hok hlen hret
  simp only [Sf.dep] at hd hu
  have hlen0 : (f.text ++ Str.ofString " -> " ++ g.text).length ≤ 1000 := hlen
  have hlen1 : f.text.length ≤ 1000 := Nat.le_trans (by rw [Str.length_append, Str.length_append]; omega) hlen0
  have hlen2 : g.text.length ≤ 1000 := Nat.le_trans (by rw [Str.length_append, Str.length_append]; omega) hlen0
  have hcut : decide ((2 : Int) < lv) = false := decide_eq_false (by omega)
  cases hf with
  | imp h1 hf hg =>
    cases b
    all_goals (
      refine wpAny_call ?_
      k_dflt (walk_at "enter")
      k_extra "steps")
    all_goals (
      rename Fr h₀ L _ _ => F9
      rename News h₀ L _ _ => N9
      exact hret _ _ _ F9 N9)
theorem shows_nots (w : World) (p : Program) (loose : List Str) (mean : ExcName → Option Value) (mg mb : Str → Option Value) : ∀ n, Shows w p loose mean mg mb (nots n) (fun _ => True)
  | 0 => show_atom w p loose mean mg mb
  | n + 1 => show_no w p loose mean mg mb _ _ trivial (shows_nots w p loose mean mg mb n)
theorem Shows.weak {w : World} {p : Program} {loose : List Str} {mean : ExcName → Option Value} {mg mb : Str → Option Value} {f : Sf} {ok ok' : Int → Prop} (h : Shows w p loose mean mg mb f ok) (k : ∀ l, ok' l → ok l) : Shows w p loose mean mg mb f ok' := by
  unfold Shows
  intro dp un gd cn cs a ccd cl outer A₀ base h₀ L m news s v lv tl b Q E B F X N T hk hd hu hf hok
  exact h dp un gd cn cs a ccd cl outer A₀ base h₀ L m news s v lv tl b Q E B F X N T hk hd hu hf (k _ hok)
theorem shows_chain (w : World) (p : Program) (loose : List Str) (mean : ExcName → Option Value) (mg mb : Str → Option Value) : ∀ n, Shows w p loose mean mg mb (chain n) (fun lv => lv ≤ 2)
  | 0 => (show_atom w p loose mean mg mb).weak fun _ _ => trivial
  | n + 1 => show_imp w p loose mean mg mb _ _ _ _ trivial (by decide) (show_atom w p loose mean mg mb) (shows_chain w p loose mean mg mb n)
/-- show -/
theorem show_ok (w : World) (p : Program) (loose : List Str) (mean : ExcName → Option Value) (mg mb : Str → Option Value) (f : Sf) (ok : Int → Prop) (h0 : ok 0) (IH : Shows w p loose mean mg mb f ok) :
    ∀ (dp un : Nat) (gd : Option (List Code)) (cn : Str) (cs : Scope) (a : Addr) (ccd : Value) (cl : List (Str × Addr)) (outer : List Env) (A₀ : Around) (base h₀ : Heap) (L : Addr) (m : Str → Option Value) (news : List (Addr × Obj)) (s : Shared) (v : Value) (Q E : Value → Shared → Prop),
      Below A₀ base outer h₀ → Fr h₀ L s.heap m → (K05 w.params).In h₀ → News h₀ L s.heap news → Top p loose mean mg mb h₀ → cs.kind = .function → dp + 2 * f.dep + 70 < recursionLimit → un + 8 * f.dep + 420 < cLine →
      FIs news v f → f.text.length ≤ 1000 →
      (∀ h' tk' u, Fr h₀ L h' m → News h₀ L h' news → Q (.str f.text u) { s with heap := h', toks := tk' }) →
      wpAny (model PySem.Challenge.rw_ui0505_05.row.prog w) (ktrTop dp un gd cn cs L a ccd cl outer) (call (.ref 228) [v]) Q E s := by
  k_fill
  k_with_none
  k_with "steps" => repeat' (first | (k_unfold; (try dsimp only)) | walk1 | (dsimp only; walk1) | (leave1; walk_say "STEP leave1"; try dsimp only) | k_extra "mine")
  k_with "spliced" => first | refine args_cons ?_ | refine args_nil ⟨Fr.keep (by assumption) _ _ (by assumption), ?_⟩ | (refine args_nil ?_; try simp only [List.cons_append, List.nil_append])
  k_with "call builtin:len cons nil" => (k_here; (with_reducible show wpAny _ _ (call (Value.builtin "len") [Value.ref _]) _ _ _); k_dflt (refine' lenL (by k_asm) (by k_mem) (by first | (with_reducible assumption) | (simp only [List.length_append, List.length_map, List.length_cons, List.length_nil]; with_reducible rfl)) (by omega) ?_))
  k_with "call ref cons nil" => (k_here; k_dflt (refine' call_cls (by k_asm) (by k_asm) (by k_asm) (by k_is) (by k_is) (by k_is) ?_; k_whole; intro x' d' h' F' N' l1 l2; (try k_lt l1); (try k_lt2 l2); (try k_sweep); walk_at "enter"))
  k_with "call builtin:list.append cons nil" => (k_here; (with_reducible show wpAny _ _ (call (Value.builtin "list.append") [Value.ref _, _]) _ _ _); k_dflt (refine' appendL (by k_asm) (by k_asm) (by k_upd) (by ((try simp only [List.length_append, List.length_map, List.length_cons, List.length_nil]); omega)) ?_; k_whole); intro h' F' N'; (try k_sweep))
  k_with "subscriptTail Attribute Name Attribute ref int" => (k_here; (with_reducible show wpAny _ _ (subscriptTail _ _ (Value.ref _) (Value.int _ _)) _ _ _); k_dflt (refine' itemL (by k_asm) (by with_reducible assumption) (by k_mem) (by with_reducible rfl) (by omega) ?_ (by with_unfolding_all rfl); k_whole))
  k_with "subscriptTail Subscript Attribute Attribute Constant ref int" => (k_here; (with_reducible show wpAny _ _ (subscriptTail _ _ (Value.ref _) (Value.int _ _)) _ _ _); k_dflt (refine' itemT (by k_asm) (by k_mem) (by decide) (by decide) (by rfl) (by rfl) ?_ (by with_unfolding_all rfl) (by intro _; with_unfolding_all rfl)))
  k_with "WhlIf" => first | (with_reducible refine WhlIf.no (by with_reducible assumption) ?_) | (with_reducible refine WhlIf.yes (by with_reducible assumption) ?_)
  k_with "exec While Compare cons nil" => (k_here; (with_reducible refine whl_start 100 ?_))
  k_with "subscriptTail Name Constant ref int" => (k_here; (with_reducible show wpAny _ _ (subscriptTail _ _ (Value.ref _) (Value.int _ _)) _ _ _); k_dflt (refine' itemT (by k_asm) (by k_mem) (by decide) (by decide) (by rfl) (by rfl) ?_ (by with_unfolding_all rfl) (by intro _; with_unfolding_all rfl)))
  k_with "call builtin:len cons nil" => (k_here; (with_reducible show wpAny _ _ (call (Value.builtin "len") [Value.ref _]) _ _ _); k_dflt (refine' lenT (by k_asm) (by k_mem) (by first | with_reducible assumption | (exact rfl)) (by omega) ?_))
  k_with "call ref cons nil" => (k_here; (with_reducible show wpAny _ _ (call (Value.ref 233) _) _ _ _); k_dflt (refine' IH _ _ _ _ _ _ _ _ _ _ _ _ _ _ _ _ _ _ _ _ _ _ (by k_asm) (by k_asm) (by k_asm) (by k_asm) (by k_asm) (by first | rfl | assumption) (by first | decide | omega | ktr_room) (by first | decide | omega | ktr_units) (by assumption) (by assumption) (by assumption) ?_; intro h' tk' u' F' N'; (try k_sweep); (try dsimp only)))
  k_with "call ref cons nil" => (k_here; (with_reducible show wpAny _ _ (call (Value.ref 233) _) _ _ _); k_dflt (refine' IHf _ _ _ _ _ _ _ _ _ _ _ _ _ _ _ _ _ _ _ _ _ _ (by k_asm) (by k_asm) (by k_asm) (by k_asm) (by k_asm) (by first | rfl | assumption) (by first | decide | omega | ktr_room) (by first | decide | omega | ktr_units) (by assumption) (by assumption) (by assumption) ?_; intro h' tk' u' F' N'; (try k_sweep); (try dsimp only)))
  k_with "call ref cons nil" => (k_here; (with_reducible show wpAny _ _ (call (Value.ref 233) _) _ _ _); k_dflt (refine' IHg _ _ _ _ _ _ _ _ _ _ _ _ _ _ _ _ _ _ _ _ _ _ (by k_asm) (by k_asm) (by k_asm) (by k_asm) (by k_asm) (by first | rfl | assumption) (by first | decide | omega | ktr_room) (by first | decide | omega | ktr_units) (by assumption) (by assumption) (by assumption) ?_; intro h' tk' u' F' N'; (try k_sweep); (try dsimp only)))
  k_with "compareOp In str ref" => (k_here; k_dflt (first | (refine' in_binders false (by k_asm) (by k_asm) (by decide +kernel) (by decide +kernel) (by first | omega | ktr_units) ?_) | (refine' in_binders true (by k_asm) (by k_asm) (by decide +kernel) (by decide +kernel) (by first | omega | ktr_units) ?_)))
  intro dp un gd cn cs a ccd cl outer A₀ base h₀ L m news s v Q E B F X N T hk hd hu hf hlen hret
  refine wpAny_call ?_
  k_dflt (walk_at "enter")
  k_extra "steps"
  rename Fr h₀ L _ _ => F9
  rename News h₀ L _ _ => N9
  exact hret _ _ _ F9 N9
theorem fold_list (a : Array Nat) : ∀ (n : Nat) (acc : Array Nat), ((List.replicate n a).foldl (· ++ ·) acc).toList = acc.toList ++ (List.replicate n a.toList).flatten
  | 0, acc => by simp
  | n + 1, acc => by
    rw [List.replicate_succ, List.foldl_cons, fold_list a n, List.replicate_succ, List.flatten_cons, Array.toList_append, List.append_assoc]
theorem mul_list (x : Str) (n : Nat) : (Txt.mul x (n : Int)).cps.toList = (List.replicate n x.cps.toList).flatten := by
  unfold Txt.mul
  by_cases h0 : n = 0
  · subst h0; simp [Str.empty]
  · rw [if_neg (by omega)]
    split
    · rename_i h
      rcases Bool.or_eq_true_iff.mp h with h | h
      · have : n = 1 := by have := beq_iff_eq.mp h; omega
        subst this; simp
      · have he : x.cps.toList = [] := by
          have : x.cps.size = 0 := beq_iff_eq.mp h
          exact List.eq_nil_of_length_eq_zero (by simpa using this)
        rw [he]; simp
    · show ((List.replicate (n : Int).toNat x.cps).foldl (· ++ ·) #[]).toList = _
      rw [fold_list]; simp
abbrev t0 (n : Nat) : Str := Txt.mul (Str.ofString "~") (n : Int) ++ Str.ofString "P"
abbrev t1 (n : Nat) : Str := Str.ofString "P" ++ Txt.mul (Str.ofString " -> P") (n : Int)
theorem t0_list (n : Nat) : (t0 n).cps.toList = List.replicate n 126 ++ [80] := by
  rw [Str.cps_append, Array.toList_append, mul_list, show (Str.ofString "~").cps.toList = [126] by decide, show (Str.ofString "P").cps.toList = [80] by decide]
  congr 1
  induction n with
  | zero => rfl
  | succ n ih => rw [List.replicate_succ, List.flatten_cons, ih, List.replicate_succ]; rfl
theorem t1_list (n : Nat) : (t1 n).cps.toList = 80 :: (List.replicate n [32, 45, 62, 32, 80]).flatten := by
  rw [Str.cps_append, Array.toList_append, mul_list, show (Str.ofString " -> P").cps.toList = [32, 45, 62, 32, 80] by decide, show (Str.ofString "P").cps.toList = [80] by decide]
  rfl
theorem t0_len (n : Nat) : (t0 n).length = n + 1 := by
  have := congrArg List.length (t0_list n)
  simpa [Str.length] using this
theorem t1_len (n : Nat) : (t1 n).length = 5 * n + 1 := by
  have := congrArg List.length (t1_list n)
  simp only [List.length_cons, Array.length_toList] at this
  rw [show ((List.replicate n [32, 45, 62, 32, 80]).flatten : List Nat).length = 5 * n by
    clear this
    induction n with
    | zero => rfl
    | succ n ih => rw [List.replicate_succ, List.flatten_cons, List.length_append, ih]; simp; omega] at this
  exact this
theorem flat_get (l : List Nat) (hl : l.length = 5) : ∀ (n j r : Nat), j < n → r < 5 → (List.replicate n l).flatten[5 * j + r]? = l[r]?
  | 0, _, _, h, _ => absurd h (by omega)
  | n + 1, 0, r, _, hr => by rw [List.replicate_succ, List.flatten_cons, List.getElem?_append_left (by omega)]; simp
  | n + 1, j + 1, r, h, hr => by
    rw [List.replicate_succ, List.flatten_cons, List.getElem?_append_right (by omega), hl, show 5 * (j + 1) + r - 5 = 5 * j + r by omega]
    exact flat_get l hl n j r (by omega) hr
theorem sign_of {x : Str} {i c : Nat} {y : Str} (h : x.cps.toList[i]? = some c) (hy : y = ⟨#[c]⟩) : SignAt x i y := ⟨c, by rw [← Array.getElem?_toList]; exact h, hy⟩
theorem t0_tilde {n i : Nat} (h : i < n) : SignAt (t0 n) i (Str.ofString "~") := sign_of (c := 126) (by rw [t0_list, List.getElem?_append_left (by simpa using h)]; simp [h]) (by decide)
theorem t0_P (n : Nat) : SignAt (t0 n) n (Str.ofString "P") := sign_of (c := 80) (by rw [t0_list, List.getElem?_append_right (by simp)]; simp) (by decide)
theorem t1_at {n j r c : Nat} (hj : j < n) (hr : r < 5) (hc : [32, 45, 62, 32, 80][r]? = some c) : (t1 n).cps.toList[5 * j + r + 1]? = some c := by
  rw [t1_list, List.getElem?_cons_succ, flat_get _ rfl n j r hj hr]; exact hc
theorem t1_P {n j : Nat} (h : j ≤ n) : SignAt (t1 n) (5 * j) (Str.ofString "P") := by
  refine sign_of (c := 80) ?_ (by decide)
  cases j with
  | zero => rw [t1_list]; rfl
  | succ j =>
    have := t1_at (n := n) (j := j) (r := 4) (by omega) (by omega) rfl
    rwa [show 5 * j + 4 + 1 = 5 * (j + 1) by omega] at this
/-- the words of either text -/
def ws0 (n : Nat) : Nat → List (Str × Int)
  | 0 => [(Str.ofString "P", (n : Int))]
  | j + 1 => (Str.ofString "~", ((n - (j + 1) : Nat) : Int)) :: ws0 n j
def ws1 (k : Nat) : Nat → List (Str × Int)
  | 0 => [(Str.ofString "P", ((5 * k : Nat) : Int))]
  | j + 1 => (Str.ofString "P", ((5 * k : Nat) : Int)) :: (Str.ofString "->", ((5 * k + 2 : Nat) : Int)) :: ws1 (k + 1) j
theorem lex0 (n : Nat) : ∀ j, j ≤ n → Lex (t0 n) (n - j) (ws0 n j)
  | 0, _ => .word (t0_P n) (.inl (t0_len n)) (.done (t0_len n))
  | j + 1, h => .tilde (t0_tilde (by omega)) (by rw [show n - (j + 1) + 1 = n - j by omega]; exact lex0 n j (by omega))
theorem lex1 (n : Nat) : ∀ j k, k + j = n → Lex (t1 n) (5 * k) (ws1 k j)
  | 0, k, h => by
    obtain rfl : k = n := by omega
    exact .word (t1_P (by omega)) (.inl (t1_len k)) (.done (t1_len k))
  | j + 1, k, h => by
    have e1 : SignAt (t1 n) (5 * k + 1) (Str.ofString " ") := sign_of (c := 32) (t1_at (j := k) (r := 0) (by omega) (by omega) rfl) (by decide)
    have e2 : SignAt (t1 n) (5 * k + 2) (Str.ofString "-") := sign_of (c := 45) (t1_at (j := k) (r := 1) (by omega) (by omega) rfl) (by decide)
    have e3 : SignAt (t1 n) (5 * k + 3) (Str.ofString ">") := sign_of (c := 62) (t1_at (j := k) (r := 2) (by omega) (by omega) rfl) (by decide)
    have e4 : SignAt (t1 n) (5 * k + 4) (Str.ofString " ") := sign_of (c := 32) (t1_at (j := k) (r := 3) (by omega) (by omega) rfl) (by decide)
    refine .word (t1_P (by omega)) (.inr e1) (.space e1 (.arrow e2 e3 (.space e4 ?_)))
    have := lex1 n j (k + 1) (by omega)
    rwa [show 5 * (k + 1) = 5 * k + 4 + 1 by omega] at this
theorem ws0_map (n : Nat) : ∀ j, (ws0 n j).map (·.1) = (nots j).words
  | 0 => rfl
  | j + 1 => by simp only [ws0, List.map_cons, ws0_map n j, nots, Sf.words]
theorem ws1_map : ∀ j k, (ws1 k j).map (·.1) = (chain j).words
  | 0, _ => rfl
  | j + 1, k => by simp only [ws1, List.map_cons, ws1_map j (k + 1), chain, Sf.words]; rfl
theorem at_map {ws : List (Str × Int)} {xs : List Str} (h : ws.map (·.1) = xs) : At ws 0 xs := by
  intro j x hx
  rw [← h, List.getElem?_map] at hx
  rw [Nat.zero_add, wordAt]
  cases e : ws[j]? with
  | none => rw [e] at hx; cases hx
  | some y => rw [e] at hx; exact Option.some.inj hx
theorem map_len {ws : List (Str × Int)} {xs : List Str} (h : ws.map (·.1) = xs) : ws.length = xs.length := by rw [← h, List.length_map]
theorem nots_len : ∀ n, (nots n).words.length = n + 1
  | 0 => rfl
  | n + 1 => by simp [nots, Sf.words, nots_len n]
theorem nots_deep : ∀ n, (nots n).deep = n + 1
  | 0 => rfl
  | n + 1 => by simp [nots, Sf.deep, nots_deep n]
theorem nots_size : ∀ n, (nots n).size = 3 * n + 1
  | 0 => rfl
  | n + 1 => by simp [nots, Sf.size, nots_size n]; omega
theorem nots_bare : ∀ n, (nots n).Bare
  | 0 => .atom
  | n + 1 => .no (nots_bare n)
theorem nots_dep : ∀ n, (nots n).dep = n + 1
  | 0 => rfl
  | n + 1 => by simp [nots, Sf.dep, nots_dep n]
theorem nots_nodes : ∀ n, (nots n).nodes = n + 1
  | 0 => rfl
  | n + 1 => by simp [nots, Sf.nodes, nots_nodes n]
theorem str_eq {a b : Str} (h : a.cps.toList = b.cps.toList) : a = b := Str.ext' (Array.toList_inj.mp h)
theorem nots_text (n : Nat) : (nots n).text = t0 n := by
  refine str_eq ?_
  rw [t0_list]
  induction n with
  | zero => decide
  | succ n ih => rw [nots, Sf.text, Str.cps_append, Array.toList_append, ih, List.replicate_succ]; rfl
theorem chain_text (n : Nat) : (chain n).text = t1 n := by
  refine str_eq ?_
  rw [t1_list]
  induction n with
  | zero => decide
  | succ n ih => rw [chain, Sf.text, Str.cps_append, Array.toList_append, ih, List.replicate_succ, List.flatten_cons]; rfl
theorem nilNews {h₀ h : Heap} {L : Addr} {m : Str → Option Value} (_F : Fr h₀ L h m) : News h₀ L h [] := News.nil
section
variable {prog : Program} {w : World} {A : Around} {E : Value → Shared → Prop} {s : Shared} {Q : Value → Shared → Prop}
theorem mod160 {a : Int} {t u : Tok} (h : ∀ k : Nat, k ≤ 79 → ((Str.ofString "" == Str.ofString "ReadError") != decide ((80 : Int) ≤ (k : Int))) = false → Q (.int (k : Int) s.toks) { s with toks := s.toks + 1 }) (h2 : ∀ k : Nat, 80 ≤ k ∧ k < 160 → ((Str.ofString "ReadError" == Str.ofString "ReadError") != decide ((80 : Int) ≤ (k : Int))) = false → decide ((79 : Int) < (k : Int)) = true → Q (.int (k : Int) s.toks) { s with toks := s.toks + 1 }) : wpAny (model prog w) A (binaryOp .Mod (.int a t) (.int 160 u)) Q E s := by
  refine mod_int' (by decide) ?_
  have h0 : 0 ≤ a.fmod 160 := Int.fmod_nonneg_of_pos _ (by decide)
  have h1 : a.fmod 160 < 160 := Int.fmod_lt_of_pos _ (by decide)
  by_cases hs : a.fmod 160 ≤ 79
  · have := h (a.fmod 160).toNat (by omega) (by rw [decide_eq_false (show ¬ (80 : Int) ≤ ((a.fmod 160).toNat : Int) by omega)]; decide)
    rw [Int.toNat_of_nonneg h0] at this
    exact this
  · have := h2 (a.fmod 160).toNat (by omega) (by rw [decide_eq_true (show (80 : Int) ≤ ((a.fmod 160).toNat : Int) by omega)]; decide) (decide_eq_true (by omega))
    rw [Int.toNat_of_nonneg h0] at this
    exact this
theorem mod2 {a : Int} {t u : Tok} (h0 : Q (.int 0 s.toks) { s with toks := s.toks + 1 }) (h1 : Q (.int 1 s.toks) { s with toks := s.toks + 1 }) : wpAny (model prog w) A (binaryOp .Mod (.int a t) (.int 2 u)) Q E s := by
  refine mod_int' (by decide) ?_
  have e0 : 0 ≤ a.fmod 2 := Int.fmod_nonneg_of_pos _ (by decide)
  have e1 : a.fmod 2 < 2 := Int.fmod_lt_of_pos _ (by decide)
  have : a.fmod 2 = 0 ∨ a.fmod 2 = 1 := by omega
  rcases this with e | e
  · rw [e]; exact h0
  · rw [e]; exact h1
end
theorem rdS0 (w : World) (p : Program) (loose : List Str) (mean : ExcName → Option Value) (mg mb : Str → Option Value) :
    ∀ (dp un : Nat) (gd : Option (List Code)) (cn : Str) (cs : Scope) (a : Addr) (ccd : Value) (cl : List (Str × Addr)) (outer : List Env) (A₀ : Around) (base h₀ : Heap) (L : Addr) (m : Str → Option Value) (news : List (Addr × Obj)) (s : Shared) (t : Tok) (n : Nat) (Q E : Value → Shared → Prop),
      Below A₀ base outer h₀ → Fr h₀ L s.heap m → (K05 w.params).In h₀ → News h₀ L s.heap news → Top p loose mean mg mb h₀ → cs.kind = .function → dp + 500 < recursionLimit → un + 3000 < cLine →
      n ≤ 79 →
      (∀ h' tk' v news', Fr h₀ L h' m → News h₀ L h' news' → FIs news' v (nots n) → Q v { s with heap := h', toks := tk' }) →
      wpAny (model PySem.Challenge.rw_ui0505_05.row.prog w) (ktrTop dp un gd cn cs L a ccd cl outer) (call (.ref 214) [.str (t0 n) t]) Q E s := by
  intro dp un gd cn cs a ccd cl outer A₀ base h₀ L m news s t n Q E B F X N T hk hd hu hn hret
  have hl := map_len (ws0_map n n)
  rw [nots_len] at hl
  have hlex := lex0 n n (by omega)
  rw [Nat.sub_self] at hlex
  exact read_ok w p loose mean mg mb (nots n) (nots_bare n) (by rw [nots_dep]; omega) (by rw [nots_nodes]; omega) 10 (form_ok w p loose mean mg mb _ 8 (imp1_ok w p loose mean mg mb _ 6 (nots_disj w p loose mean mg mb n)))
    dp un gd cn cs a ccd cl outer A₀ base h₀ L m news s (t0 n) t (ws0 n n) Q E B F X N T hk (by rw [nots_size]; omega) (by rw [nots_size]; omega) hlex (by rw [t0_len]; omega) (by omega) (at_map (ws0_map n n)) (by rw [nots_len]; exact hl) (by rw [nots_deep]; omega) hret
theorem rdS1 (w : World) (p : Program) (loose : List Str) (mean : ExcName → Option Value) (mg mb : Str → Option Value) :
    ∀ (dp un : Nat) (gd : Option (List Code)) (cn : Str) (cs : Scope) (a : Addr) (ccd : Value) (cl : List (Str × Addr)) (outer : List Env) (A₀ : Around) (base h₀ : Heap) (L : Addr) (m : Str → Option Value) (news : List (Addr × Obj)) (s : Shared) (t : Tok) (n : Nat) (Q E : Value → Shared → Prop),
      Below A₀ base outer h₀ → Fr h₀ L s.heap m → (K05 w.params).In h₀ → News h₀ L s.heap news → Top p loose mean mg mb h₀ → cs.kind = .function → dp + 500 < recursionLimit → un + 3000 < cLine →
      n ≤ 79 →
      (∀ h' tk' v news', Fr h₀ L h' m → News h₀ L h' news' → FIs news' v (chain n) → Q v { s with heap := h', toks := tk' }) →
      wpAny (model PySem.Challenge.rw_ui0505_05.row.prog w) (ktrTop dp un gd cn cs L a ccd cl outer) (call (.ref 214) [.str (t1 n) t]) Q E s := by
  intro dp un gd cn cs a ccd cl outer A₀ base h₀ L m news s t n Q E B F X N T hk hd hu hn hret
  have hl := map_len (ws1_map n 0)
  rw [chain_len] at hl
  have hlex := lex1 n n 0 (by omega)
  exact read_ok w p loose mean mg mb (chain n) (chain_bare n) (by rw [chain_dep]; omega) (by rw [chain_nodes]; omega) 128 (form_ok w p loose mean mg mb _ 126 (impn_ok w p loose mean mg mb n hn 6 (nots_disj w p loose mean mg mb 0)))
    dp un gd cn cs a ccd cl outer A₀ base h₀ L m news s (t1 n) t (ws1 0 n) Q E B F X N T hk (by rw [chain_size]; omega) (by rw [chain_size]; omega) hlex (by rw [t1_len]; omega) (by omega) (at_map (ws1_map n 0)) (by rw [chain_len]; exact hl) (by rw [chain_deep]; omega) hret
theorem rdL0 (w : World) (p : Program) (loose : List Str) (mean : ExcName → Option Value) (mg mb : Str → Option Value) :
    ∀ (dp un : Nat) (gd : Option (List Code)) (cn : Str) (cs : Scope) (a : Addr) (ccd : Value) (cl : List (Str × Addr)) (outer : List Env) (A₀ : Around) (base h₀ : Heap) (L : Addr) (m : Str → Option Value) (news : List (Addr × Obj)) (s : Shared) (t : Tok) (n : Nat) (Q E : Value → Shared → Prop),
      Below A₀ base outer h₀ → Fr h₀ L s.heap m → (K05 w.params).In h₀ → News h₀ L s.heap news → Top p loose mean mg mb h₀ → cs.kind = .function → dp + 500 < recursionLimit → un + 3000 < cLine →
      80 ≤ n ∧ n < 160 →
      (∀ h' tk' e g, Flies base (envX cn cs L a ccd cl :: outer) e 44 h' → Fr h₀ L g m → g.UpToSlots h' → E (.ref e) { s with heap := h', toks := tk' }) →
      wpAny (model PySem.Challenge.rw_ui0505_05.row.prog w) (ktrTop dp un gd cn cs L a ccd cl outer) (call (.ref 214) [.str (t0 n) t]) Q E s := by
  intro dp un gd cn cs a ccd cl outer A₀ base h₀ L m news s t n Q E B F X N T hk hd hu hn hexc
  have hl := map_len (ws0_map n n)
  rw [nots_len] at hl
  have hlex := lex0 n n (by omega)
  rw [Nat.sub_self] at hlex
  exact read_r w p loose mean mg mb (nots n) 10 (fun dq => 80 < dq + n + 1) (by omega) (fun _ => True) trivial (form_r w p loose mean mg mb _ 8 _ _ (nots_impr w p loose mean mg mb _ n))
    dp un gd cn cs a ccd cl outer A₀ base h₀ L m news s (t0 n) t (ws0 n n) Q E B F X N T hk (by omega) (by omega) hlex (by rw [t0_len]; omega) (by omega) (at_map (ws0_map n n)) (by rw [nots_len]; exact hl) hexc
theorem rdL1 (w : World) (p : Program) (loose : List Str) (mean : ExcName → Option Value) (mg mb : Str → Option Value) :
    ∀ (dp un : Nat) (gd : Option (List Code)) (cn : Str) (cs : Scope) (a : Addr) (ccd : Value) (cl : List (Str × Addr)) (outer : List Env) (A₀ : Around) (base h₀ : Heap) (L : Addr) (m : Str → Option Value) (news : List (Addr × Obj)) (s : Shared) (t : Tok) (n : Nat) (Q E : Value → Shared → Prop),
      Below A₀ base outer h₀ → Fr h₀ L s.heap m → (K05 w.params).In h₀ → News h₀ L s.heap news → Top p loose mean mg mb h₀ → cs.kind = .function → dp + 500 < recursionLimit → un + 3000 < cLine →
      80 ≤ n ∧ n < 160 →
      (∀ h' tk' e g, Flies base (envX cn cs L a ccd cl :: outer) e 44 h' → Fr h₀ L g m → g.UpToSlots h' → E (.ref e) { s with heap := h', toks := tk' }) →
      wpAny (model PySem.Challenge.rw_ui0505_05.row.prog w) (ktrTop dp un gd cn cs L a ccd cl outer) (call (.ref 214) [.str (t1 n) t]) Q E s := by
  intro dp un gd cn cs a ccd cl outer A₀ base h₀ L m news s t n Q E B F X N T hk hd hu hn hexc
  have hl := map_len (ws1_map n 0)
  rw [chain_len] at hl
  have hlex := lex1 n n 0 (by omega)
  exact read_r w p loose mean mg mb (chain n) 18 (fun dq => dq + 1 ≤ 80) (by omega) _ (by decide) (form_r w p loose mean mg mb _ 16 _ _ (impn_r w p loose mean mg mb n hn.1 6 (nots_disj w p loose mean mg mb 0)))
    dp un gd cn cs a ccd cl outer A₀ base h₀ L m news s (t1 n) t (ws1 0 n) Q E B F X N T hk (by omega) (by omega) hlex (by rw [t1_len]; omega) (by omega) (at_map (ws1_map n 0)) (by rw [chain_len]; exact hl) hexc
theorem shw0 (w : World) (p : Program) (loose : List Str) (mean : ExcName → Option Value) (mg mb : Str → Option Value) :
    ∀ (dp un : Nat) (gd : Option (List Code)) (cn : Str) (cs : Scope) (a : Addr) (ccd : Value) (cl : List (Str × Addr)) (outer : List Env) (A₀ : Around) (base h₀ : Heap) (L : Addr) (m : Str → Option Value) (news : List (Addr × Obj)) (s : Shared) (v : Value) (n : Nat) (Q E : Value → Shared → Prop),
      Below A₀ base outer h₀ → Fr h₀ L s.heap m → (K05 w.params).In h₀ → News h₀ L s.heap news → Top p loose mean mg mb h₀ → cs.kind = .function → dp + 500 < recursionLimit → un + 3000 < cLine →
      n ≤ 79 → FIs news v (nots n) →
      (∀ h' tk' u, Fr h₀ L h' m → News h₀ L h' news → Q (.str (t0 n) u) { s with heap := h', toks := tk' }) →
      wpAny (model PySem.Challenge.rw_ui0505_05.row.prog w) (ktrTop dp un gd cn cs L a ccd cl outer) (call (.ref 228) [v]) Q E s := by
  intro dp un gd cn cs a ccd cl outer A₀ base h₀ L m news s v n Q E B F X N T hk hd hu hn hf hret
  exact show_ok w p loose mean mg mb (nots n) _ trivial (shows_nots w p loose mean mg mb n) dp un gd cn cs a ccd cl outer A₀ base h₀ L m news s v Q E B F X N T hk (by rw [nots_dep]; omega) (by rw [nots_dep]; omega) hf (by rw [nots_text, t0_len]; omega) (by rw [nots_text]; exact hret)
theorem shw1 (w : World) (p : Program) (loose : List Str) (mean : ExcName → Option Value) (mg mb : Str → Option Value) :
    ∀ (dp un : Nat) (gd : Option (List Code)) (cn : Str) (cs : Scope) (a : Addr) (ccd : Value) (cl : List (Str × Addr)) (outer : List Env) (A₀ : Around) (base h₀ : Heap) (L : Addr) (m : Str → Option Value) (news : List (Addr × Obj)) (s : Shared) (v : Value) (n : Nat) (Q E : Value → Shared → Prop),
      Below A₀ base outer h₀ → Fr h₀ L s.heap m → (K05 w.params).In h₀ → News h₀ L s.heap news → Top p loose mean mg mb h₀ → cs.kind = .function → dp + 500 < recursionLimit → un + 3000 < cLine →
      n ≤ 79 → FIs news v (chain n) →
      (∀ h' tk' u, Fr h₀ L h' m → News h₀ L h' news → Q (.str (t1 n) u) { s with heap := h', toks := tk' }) →
      wpAny (model PySem.Challenge.rw_ui0505_05.row.prog w) (ktrTop dp un gd cn cs L a ccd cl outer) (call (.ref 228) [v]) Q E s := by
  intro dp un gd cn cs a ccd cl outer A₀ base h₀ L m news s v n Q E B F X N T hk hd hu hn hf hret
  exact show_ok w p loose mean mg mb (chain n) _ (by decide) (shows_chain w p loose mean mg mb n) dp un gd cn cs a ccd cl outer A₀ base h₀ L m news s v Q E B F X N T hk (by rw [chain_dep]; omega) (by rw [chain_dep]; omega) hf (by rw [chain_text, t1_len]; omega) (by rw [chain_text]; exact hret)
theorem t : PySem.Challenge.rw_ui0505_05.Holds := hd05 (by
  k_with_none
  k_with "steps" => repeat' (first | (k_unfold; (try dsimp only)) | walk1 | (dsimp only; walk1) | (leave1; walk_say "STEP leave1"; try dsimp only) | k_extra "mine")
  k_with "spliced" => first | refine args_cons ?_ | refine args_nil ⟨Fr.keep (by assumption) _ _ (by assumption), ?_⟩ | (refine args_nil ?_; try simp only [List.cons_append, List.nil_append])
  k_with "call builtin:len cons nil" => (k_here; (with_reducible show wpAny _ _ (call (Value.builtin "len") [Value.ref _]) _ _ _); k_dflt (refine' lenL (by k_asm) (by k_mem) (by first | (with_reducible assumption) | (simp only [List.length_append, List.length_map, List.length_cons, List.length_nil]; with_reducible rfl)) (by omega) ?_))
  k_with "call ref cons nil" => (k_here; k_dflt (refine' call_cls (by k_asm) (by k_asm) (by k_asm) (by k_is) (by k_is) (by k_is) ?_; k_whole; intro x' d' h' F' N' l1 l2; (try k_lt l1); (try k_lt2 l2); (try k_sweep); walk_at "enter"))
  k_with "call builtin:list.append cons nil" => (k_here; (with_reducible show wpAny _ _ (call (Value.builtin "list.append") [Value.ref _, _]) _ _ _); k_dflt (refine' appendL (by k_asm) (by k_asm) (by k_upd) (by ((try simp only [List.length_append, List.length_map, List.length_cons, List.length_nil]); omega)) ?_; k_whole); intro h' F' N'; (try k_sweep))
  k_with "subscriptTail Attribute Name Attribute ref int" => (k_here; (with_reducible show wpAny _ _ (subscriptTail _ _ (Value.ref _) (Value.int _ _)) _ _ _); k_dflt (refine' itemL (by k_asm) (by with_reducible assumption) (by k_mem) (by with_reducible rfl) (by omega) ?_ (by with_unfolding_all rfl); k_whole))
  k_with "subscriptTail Subscript Attribute Attribute Constant ref int" => (k_here; (with_reducible show wpAny _ _ (subscriptTail _ _ (Value.ref _) (Value.int _ _)) _ _ _); k_dflt (refine' itemT (by k_asm) (by k_mem) (by decide) (by decide) (by rfl) (by rfl) ?_ (by with_unfolding_all rfl) (by intro _; with_unfolding_all rfl)))
  k_with "WhlIf" => first | (with_reducible refine WhlIf.no (by with_reducible assumption) ?_) | (with_reducible refine WhlIf.yes (by with_reducible assumption) ?_)
  k_with "exec While Compare cons nil" => (k_here; (with_reducible refine whl_start 100 ?_))
  k_with "call ref cons nil" => (k_here; (with_reducible show wpAny _ _ (call (Value.ref 214) _) _ _ _); with_reducible refine halt ?_)
  k_with "binaryOp Mod int int" => (k_here; (with_reducible show wpAny _ _ (binaryOp _ (Value.int _ _) (Value.int 160 _)) _ _ _); (with_reducible refine' mod160 ?_ ?_); all_goals (intro n' hn' hcA; (try intro hcB); (try dsimp only)))
  k_with "binaryOp Mod int int" => (k_here; (with_reducible show wpAny _ _ (binaryOp _ (Value.int _ _) (Value.int 2 _)) _ _ _); (with_reducible refine' mod2 ?_ ?_); all_goals (try dsimp only))
  k_with "call ref cons nil" => (k_here; (with_reducible show wpAny _ _ (call (Value.ref 214) [Value.str (Txt.mul _ _ ++ _) _]) _ _ _); k_dflt (refine' rdS0 _ _ _ _ _ _ _ _ _ _ _ _ _ _ _ _ _ _ _ _ _ _ _ n' _ _ (by k_asm) (by k_asm) (by k_asm) (by k_asm) (by k_asm) (by first | rfl | assumption) (by first | decide | omega | ktr_room) (by first | decide | omega | ktr_units) (by first | assumption | exact ⟨by omega, by omega⟩) ?_; intro h' tk' v' news' F' N' f'; (try k_sweep); (try dsimp only)))
  k_with "call ref cons nil" => (k_here; (with_reducible show wpAny _ _ (call (Value.ref 214) [Value.str (_ ++ Txt.mul _ _) _]) _ _ _); k_dflt (refine' rdS1 _ _ _ _ _ _ _ _ _ _ _ _ _ _ _ _ _ _ _ _ _ _ _ n' _ _ (by k_asm) (by k_asm) (by k_asm) (by k_asm) (by k_asm) (by first | rfl | assumption) (by first | decide | omega | ktr_room) (by first | decide | omega | ktr_units) (by first | assumption | exact ⟨by omega, by omega⟩) ?_; intro h' tk' v' news' F' N' f'; (try k_sweep); (try dsimp only)))
  k_with "call ref cons nil" => (k_here; (with_reducible show wpAny _ _ (call (Value.ref 214) [Value.str (Txt.mul _ _ ++ _) _]) _ _ _); k_dflt (refine' rdL0 _ _ _ _ _ _ _ _ _ _ _ _ _ _ _ _ _ _ _ _ _ _ _ n' _ _ (by k_asm) (by k_asm) (by k_asm) (by k_asm) (by k_asm) (by first | rfl | assumption) (by first | decide | omega | ktr_room) (by first | decide | omega | ktr_units) (by first | assumption | exact ⟨by omega, by omega⟩) ?_; intro h9 tk9 e9 g9 R9 FG9 U9; (try dsimp only); (refine' exc_caught (by k_asm) FG9 U9 R9 (by k_asm) (by k_asm) (by k_is) (excI_is _) (by decide) ?_); intro h8 F8; (have N8 := nilNews F8); (try dsimp only)))
  k_with "call ref cons nil" => (k_here; (with_reducible show wpAny _ _ (call (Value.ref 214) [Value.str (_ ++ Txt.mul _ _) _]) _ _ _); k_dflt (refine' rdL1 _ _ _ _ _ _ _ _ _ _ _ _ _ _ _ _ _ _ _ _ _ _ _ n' _ _ (by k_asm) (by k_asm) (by k_asm) (by k_asm) (by k_asm) (by first | rfl | assumption) (by first | decide | omega | ktr_room) (by first | decide | omega | ktr_units) (by first | assumption | exact ⟨by omega, by omega⟩) ?_; intro h9 tk9 e9 g9 R9 FG9 U9; (try dsimp only); (refine' exc_caught (by k_asm) FG9 U9 R9 (by k_asm) (by k_asm) (by k_is) (excI_is _) (by decide) ?_); intro h8 F8; (have N8 := nilNews F8); (try dsimp only)))
  k_with "call ref cons nil" => (k_here; (with_reducible show wpAny _ _ (call (Value.ref 228) _) _ _ _); k_dflt (refine' shw0 _ _ _ _ _ _ _ _ _ _ _ _ _ _ _ _ _ _ _ _ _ _ _ n' _ _ (by k_asm) (by k_asm) (by k_asm) (by k_asm) (by k_asm) (by first | rfl | assumption) (by first | decide | omega | ktr_room) (by first | decide | omega | ktr_units) (by assumption) (by assumption) ?_; intro h' tk' u' F' N'; (try k_sweep); (try dsimp only)))
  k_with "call ref cons nil" => (k_here; (with_reducible show wpAny _ _ (call (Value.ref 228) _) _ _ _); k_dflt (refine' shw1 _ _ _ _ _ _ _ _ _ _ _ _ _ _ _ _ _ _ _ _ _ _ _ n' _ _ (by k_asm) (by k_asm) (by k_asm) (by k_asm) (by k_asm) (by first | rfl | assumption) (by first | decide | omega | ktr_room) (by first | decide | omega | ktr_units) (by assumption) (by assumption) ?_; intro h' tk' u' F' N'; (try k_sweep); (try dsimp only)))
  k_with "steps" => repeat' (first | (k_unfold; (try dsimp only)) | k_extra "end" | walk1 | (dsimp only; walk1) | (leave1; walk_say "STEP leave1"; try dsimp only) | k_extra "mine")
  k_with "end" => (k_end; (try dsimp only); (try rw [beq_self_eq_true]); (try rw [hcB]); (with_reducible show GoodW _ _ _ _ _ (Except.ok (Flow.ret (Value.bool true))) _); (refine ⟨.inl ⟨.bool true, .bool true, [], rfl, fun _ => rfl, .bool _, ?_, fun _ => ⟨List.nodup_nil, fun _ h => nomatch h⟩⟩, Fr.keep (by k_asm), rfl, by assumption⟩); wrow_post)
  w_strict (k_go0; (all_goals try k_fold))
  k_extra "steps")
end Mine
end
theorem PySem.Challenge.cw_ui0505_05_holds : PySem.Challenge.rw_ui0505_05.Holds :=
  Mine.t
