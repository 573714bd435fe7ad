import PyProof.Rows.All
import Wide.All
import OpenK.AllK
import Wide.FinOn
import PySem.Challenge.RW_ui0505_04
set_option Elab.async false
set_option maxRecDepth 100000
set_option maxHeartbeats 8000000
section
open PySem PySem.W PyProof.Rows PyProof.V PySem.Spec
namespace Mine
/-- fewer entries -/
theorem nsub {h₀ h : Heap} {L : Addr} {l l' : List (Addr × Obj)} (N : News h₀ L h l) (hs : ∀ q ∈ l', q ∈ l) : News h₀ L h l' := fun q hq => N q (hs q hq)
/-- two entries that differ somewhere have two addresses -/
theorem nne {α : Type} (f : Obj → α) {h₀ h : Heap} {L : Addr} {l : List (Addr × Obj)} (N : News h₀ L h l) {a b : Addr} {x y : Obj} (ha : (a, x) ∈ l) (hb : (b, y) ∈ l) (hf : f x ≠ f y) : @Ne Nat a b := by
  intro e
  subst e
  have h1 := (N _ ha).1
  rw [(N _ hb).1] at h1
  exact hf (congrArg f (Option.some.inj h1)).symm
/-- the ledger without some addresses -/
def offs (as : List Addr) (l : List (Addr × Obj)) : List (Addr × Obj) := l.filter fun q => !as.contains q.1
theorem mem_offs {as : List Addr} {l : List (Addr × Obj)} {q : Addr × Obj} : q ∈ offs as l ↔ q ∈ l ∧ q.1 ∉ as := by
  simp [offs, List.mem_filter]
theorem offs_ne {as : List Addr} {l : List (Addr × Obj)} {a : Addr} (h : a ∈ as) : ∀ q ∈ offs as l, q.1 ≠ a := fun q hq e => (mem_offs.mp hq).2 (e ▸ h)
theorem allLt_ne {d : Addr} : ∀ {l : List (Addr × Obj)}, AllLt d l → ∀ p ∈ l, p.1 ≠ d
  | [], _, _, hp => nomatch hp
  | _ :: _, h, p, hp => by
    rcases List.mem_cons.mp hp with rfl | hp
    · exact Nat.ne_of_lt h.1
    · exact allLt_ne h.2 p hp
theorem allLt_mem {d : Addr} : ∀ {l : List (Addr × Obj)}, AllLt d l → ∀ p ∈ l, p.1 < d
  | [], _, _, hp => nomatch hp
  | _ :: _, h, p, hp => by
    rcases List.mem_cons.mp hp with rfl | hp
    · exact h.1
    · exact allLt_mem h.2 p hp
theorem ite_eq_no {a b : Int} {P Q : Prop} (h : a ≠ b) (h2 : Q) : if (decide (a = b)) = true then P else Q := by
  rw [if_neg (by simpa using h)]; exact h2
theorem ite_eq_yes {a b : Int} {P Q : Prop} (h : a = b) (h2 : P) : if (decide (a = b)) = true then P else Q := by
  rw [if_pos (by simpa using h)]; exact h2
/-- the first key of a dict -/
def tagOf (o : Obj) : Value × Option Str := (o.cls, match o.data with | .dict es _ => (match es.toList with | e :: _ => (match e.key with | .str x _ => some x | _ => none) | [] => none) | _ => none)
abbrev ent (w : World) (x : String) (t : Tok) (v : Value) : DictEntry := ⟨PyData.keyHash w.params (Str.ofString x), .str (Str.ofString x) t, v⟩
structure BoxR where
  ba : Addr
  bd : Addr
  pa : Int
  f : Int
  g : Int
  tp : Tok
  tn : Tok
  tf : Tok
  tg : Tok
  up : Tok
  uf : Tok
  ug : Tok
abbrev BoxR.o (w : World) (r : BoxR) : Obj := dictOf [ent w "parent" r.tp (.int r.pa r.up), ent w "name" r.tn .none, ent w "first" r.tf (.int r.f r.uf), ent w "last" r.tg (.int r.g r.ug)] 4
abbrev BoxR.v (r : BoxR) : Value := .ref r.ba
structure LineR where
  la : Addr
  ld : Addr
  fo : Value
  re : Value
  bo : Value
  t1 : Tok
  t2 : Tok
  t3 : Tok
  t4 : Tok
  u : Tok
abbrev LineR.o (w : World) (r : LineR) : Obj := dictOf [ent w "formula" r.t1 r.fo, ent w "rule" r.t2 (.str (Str.ofString "assume") r.u), ent w "refs" r.t3 r.re, ent w "boxes" r.t4 r.bo] 4
abbrev LineR.v (r : LineR) : Value := .ref r.la
abbrev pdO (w : World) (l b o : Addr) (t1 t2 t3 : Tok) : Obj := dictOf [ent w "lines" t1 (.ref l), ent w "boxes" t2 (.ref b), ent w "_open" t3 (.ref o)] 3
/-- the proof's objects: boxes, lines, and the boxes that stand open -/
structure PS (w : World) (news : List (Addr × Obj)) (p pd l b o : Addr) (t1 t2 t3 : Tok) (nl nb no : Nat) (bx : List BoxR) (ln : List LineR) (os : List Value) : Prop where
  hp : (p, instObj 242 pd) ∈ news
  hpd : (pd, pdO w l b o t1 t2 t3) ∈ news
  hl : (l, listOf (ln.map LineR.v).toArray nl) ∈ news
  hb : (b, listOf (bx.map BoxR.v).toArray nb) ∈ news
  ho : (o, listOf os.toArray no) ∈ news
  lb : @Ne Nat l b
  lo : @Ne Nat l o
  bo : @Ne Nat b o
  hbx : ∀ r ∈ bx, (r.ba, instObj 114 r.bd) ∈ news ∧ (r.bd, r.o w) ∈ news
  hbn : (bx.map (·.bd)).Nodup
  hln : ∀ r ∈ ln, (r.la, instObj 93 r.ld) ∈ news ∧ (r.ld, r.o w) ∈ news
section
variable {prog : Program} {w : World} {A : Around} {E : Value → Shared → Prop} {s : Shared} {h₀ : Heap} {L : Addr} {news : List (Addr × Obj)} {Q : Value → Shared → Prop}
theorem newsList {a : Addr} {vs : List Value} {n : Nat} (N : News h₀ L s.heap news) (hm : (a, listOf vs.toArray n) ∈ news) : s.heap.IsList a vs.toArray := ⟨_, (N _ hm).1, rfl, n, rfl⟩
theorem lenL {a : Addr} {vs : List Value} {n k : Nat} (N : News h₀ L s.heap news) (hm : (a, listOf vs.toArray n) ∈ news) (hk : vs.length = k) (hfit : k ≤ 1000)
    (h : Q (.int (k : Int) (s.toks + 1)) { s with toks := s.toks + 1 + 1 }) : wpAny (model prog w) A (call (.builtin "len") [.ref a]) Q E s := by
  have e : (vs.toArray.size : Int) = (k : Int) := by rw [List.size_toArray, hk]
  exact PyProof.Rows.len_list (newsList N hm) (by rw [e]; omega) (by rw [e]; exact h)
theorem itemL {value slice : PySem.Expr} {a : Addr} {vs : List Value} {n i : Nat} {k : Int} {u : Tok} {x : Value} (N : News h₀ L s.heap news) (hx : vs[i]? = some x) (hm : (a, listOf vs.toArray n) ∈ news) (hk : k = (i : Int)) (hi : i ≤ 1000) (h : Q x s)
    (hs : subscripted slice false (.ref a) (.int k u) = operate [.ref a, .int k u] (getItem (.ref a) (.int k u))) :
    wpAny (model prog w) A (subscriptTail value slice (.ref a) (.int k u)) Q E s := by
  subst hk
  exact tail_any (newsList N hm).typeIs slot_list_getitem.lookup (wpAny_getItem_list (newsList N hm) (by omega) (by omega) (by simpa using hx) h) hs
theorem itemLast {value slice : PySem.Expr} {a : Addr} {vs : List Value} {n : Nat} {u : Tok} {x : Value} (N : News h₀ L s.heap news) (hm : (a, listOf (vs ++ [x]).toArray n) ∈ news) (h : Q x s)
    (hs : subscripted slice false (.ref a) (.int (-1) u) = operate [.ref a, .int (-1) u] (getItem (.ref a) (.int (-1) u))) :
    wpAny (model prog w) A (subscriptTail value slice (.ref a) (.int (-1) u)) Q E s := by
  have hl := newsList N hm
  refine tail_any hl.typeIs slot_list_getitem.lookup (wpAny_getItem_list_neg hl (by decide) ?_ (by decide) ?_ h) hs
  · simp only [List.size_toArray, List.length_append, List.length_singleton]; omega
  · have e : ((-1 : Int) + ((vs ++ [x]).toArray.size : Nat)).toNat = vs.length := by simp only [List.size_toArray, List.length_append, List.length_singleton]; omega
    rw [e]; simp
theorem appendL {m : Str → Option Value} {a : Addr} {vs : List Value} {n : Nat} {x : Value} {news' : List (Addr × Obj)} (F : Fr h₀ L s.heap m) (N : News h₀ L s.heap news) (U : Upd a (listOf vs.toArray n) (listOf (vs ++ [x]).toArray (n + 1)) news news') (hsz : vs.length ≤ 1000)
    (h : ∀ h', Fr h₀ L h' m → News h₀ L h' news' → Q .none { s with heap := h' }) : wpAny (model prog w) A (call (.builtin "list.append") [.ref a, x]) Q E s := by
  refine append_K (its := vs.toArray) F N (by simpa using U) h ?_
  rw [List.size_toArray, sizeLine_eq]; omega
end
section
variable {w : World} {h₀ h : Heap} {L : Addr} {news rest : List (Addr × Obj)} {p pd l b o : Addr} {t1 t2 t3 : Tok} {nl nb no : Nat} {bx : List BoxR} {ln : List LineR} {os : List Value}
theorem off3 {q : Addr × Obj} (hq : q ∈ news) (h1 : @Ne Nat q.1 l) (h2 : @Ne Nat q.1 b) (h3 : @Ne Nat q.1 o) : q ∈ offs [l, b, o] news := mem_offs.mpr ⟨hq, fun hm => by
  simp only [List.mem_cons, List.not_mem_nil, or_false] at hm
  rcases hm with e | e | e
  · exact h1 e
  · exact h2 e
  · exact h3 e⟩
theorem PS.bxs (hS : PS w news p pd l b o t1 t2 t3 nl nb no bx ln os) (N : News h₀ L h news) : ∀ r ∈ bx, (r.ba, instObj 114 r.bd) ∈ offs [l, b, o] news ∧ (r.bd, r.o w) ∈ offs [l, b, o] news := fun r hr =>
  ⟨off3 (hS.hbx r hr).1 (nne tagOf N (hS.hbx r hr).1 hS.hl (fun e => by cases e)) (nne tagOf N (hS.hbx r hr).1 hS.hb (fun e => by cases e)) (nne tagOf N (hS.hbx r hr).1 hS.ho (fun e => by cases e)),
   off3 (hS.hbx r hr).2 (nne tagOf N (hS.hbx r hr).2 hS.hl (fun e => by simp [tagOf] at e)) (nne tagOf N (hS.hbx r hr).2 hS.hb (fun e => by simp [tagOf] at e)) (nne tagOf N (hS.hbx r hr).2 hS.ho (fun e => by simp [tagOf] at e))⟩
theorem PS.lns (hS : PS w news p pd l b o t1 t2 t3 nl nb no bx ln os) (N : News h₀ L h news) : ∀ r ∈ ln, (r.la, instObj 93 r.ld) ∈ offs [l, b, o] news ∧ (r.ld, r.o w) ∈ offs [l, b, o] news := fun r hr =>
  ⟨off3 (hS.hln r hr).1 (nne tagOf N (hS.hln r hr).1 hS.hl (fun e => by cases e)) (nne tagOf N (hS.hln r hr).1 hS.hb (fun e => by cases e)) (nne tagOf N (hS.hln r hr).1 hS.ho (fun e => by cases e)),
   off3 (hS.hln r hr).2 (nne tagOf N (hS.hln r hr).2 hS.hl (fun e => by simp [tagOf] at e)) (nne tagOf N (hS.hln r hr).2 hS.hb (fun e => by simp [tagOf] at e)) (nne tagOf N (hS.hln r hr).2 hS.ho (fun e => by simp [tagOf] at e))⟩
/-- the front of the ledger -/
theorem PS.front (hS : PS w news p pd l b o t1 t2 t3 nl nb no bx ln os) (N : News h₀ L h news) :
    News h₀ L h ((p, instObj 242 pd) :: (pd, pdO w l b o t1 t2 t3) :: (l, listOf (ln.map LineR.v).toArray nl) :: (b, listOf (bx.map BoxR.v).toArray nb) :: (o, listOf os.toArray no) :: offs [l, b, o] news) := nsub N (by
    intro q hq
    simp only [List.mem_cons] at hq
    rcases hq with rfl | rfl | rfl | rfl | rfl | hq
    · exact hS.hp
    · exact hS.hpd
    · exact hS.hl
    · exact hS.hb
    · exact hS.ho
    · exact (mem_offs.mp hq).1)
structure Apart (rest : List (Addr × Obj)) (p pd l b o : Addr) : Prop where
  lb : @Ne Nat l b
  lo : @Ne Nat l o
  bo : @Ne Nat b o
  pl : @Ne Nat p l
  pb : @Ne Nat p b
  po : @Ne Nat p o
  dl : @Ne Nat pd l
  db : @Ne Nat pd b
  d0 : @Ne Nat pd o
  al : ∀ q ∈ rest, q.1 ≠ l
  ab : ∀ q ∈ rest, q.1 ≠ b
  ao : ∀ q ∈ rest, q.1 ≠ o
theorem PS.apart (hS : PS w news p pd l b o t1 t2 t3 nl nb no bx ln os) (N : News h₀ L h news) : Apart (offs [l, b, o] news) p pd l b o :=
  ⟨hS.lb, hS.lo, hS.bo, nne tagOf N hS.hp hS.hl (fun e => by cases e), nne tagOf N hS.hp hS.hb (fun e => by cases e), nne tagOf N hS.hp hS.ho (fun e => by cases e),
   nne tagOf N hS.hpd hS.hl (fun e => by simp [tagOf] at e), nne tagOf N hS.hpd hS.hb (fun e => by simp [tagOf] at e), nne tagOf N hS.hpd hS.ho (fun e => by simp [tagOf] at e),
   offs_ne (by simp), offs_ne (by simp), offs_ne (by simp)⟩
/-- a box more -/
theorem PS.opened {x d : Addr} {pa k : Int} {a1 a2 a3 a4 a5 a6 a7 u : Tok} {nb' no' : Nat} (hbx : ∀ r ∈ bx, (r.ba, instObj 114 r.bd) ∈ rest ∧ (r.bd, r.o w) ∈ rest) (hln : ∀ r ∈ ln, (r.la, instObj 93 r.ld) ∈ rest ∧ (r.ld, r.o w) ∈ rest) (hbn : (bx.map (·.bd)).Nodup) (ap : Apart rest p pd l b o) (hd : AllLt d rest) :
    PS w ((x, instObj 114 d) :: (d, dictOf [ent w "parent" a1 (.int pa a5), ent w "name" a2 .none, ent w "first" a3 (.int 0 a6), ent w "last" a4 (.int 0 a7)] 4) :: (p, instObj 242 pd) :: (pd, pdO w l b o t1 t2 t3) :: (l, listOf (ln.map LineR.v).toArray nl) :: (b, listOf (bx.map BoxR.v ++ [Value.ref x]).toArray nb') :: (o, listOf (os ++ [Value.int k u]).toArray no') :: rest)
      p pd l b o t1 t2 t3 nl nb' no' (bx ++ [⟨x, d, pa, 0, 0, a1, a2, a3, a4, a5, a6, a7⟩]) ln (os ++ [Value.int k u]) where
  hp := by simp
  hpd := by simp
  hl := by simp
  hb := by simp
  ho := by simp
  lb := ap.lb
  lo := ap.lo
  bo := ap.bo
  hbx := by
    intro r hr
    rcases List.mem_append.mp hr with hr | hr
    · have := hbx r hr
      simp only [List.mem_cons, this, or_true, and_self]
    · rw [List.mem_singleton.mp hr]
      exact ⟨List.mem_cons_self, List.mem_cons_of_mem _ List.mem_cons_self⟩
  hbn := by
    rw [List.map_append, List.nodup_append]
    refine ⟨hbn, by simp, ?_⟩
    intro y hy z hz e
    obtain ⟨r, hr, rfl⟩ := List.mem_map.mp hy
    simp only [List.map_cons, List.map_nil, List.mem_singleton] at hz
    exact allLt_ne hd _ (hbx r hr).2 (e.trans hz)
  hln := by
    intro r hr
    have := hln r hr
    simp only [List.mem_cons, this, or_true, and_self]
end
/-- what is no list and no dict stays -/
def Kept (news news' : List (Addr × Obj)) : Prop := ∀ q ∈ news, q.2.cls ≠ .type "list" → q.2.cls ≠ .type "dict" → q ∈ news'
theorem Kept.trans {a b c : List (Addr × Obj)} (h : Kept a b) (h' : Kept b c) : Kept a c := fun q hq h1 h2 => h' q (h q hq h1 h2) h1 h2
theorem Kept.sub {a b : List (Addr × Obj)} (h : ∀ q ∈ a, q ∈ b) : Kept a b := fun q hq _ _ => h q hq
theorem PS.kept {w : World} {h₀ h : Heap} {L : Addr} {news : List (Addr × Obj)} {p pd l b o : Addr} {t1 t2 t3 : Tok} {nl nb no : Nat} {bx : List BoxR} {ln : List LineR} {os : List Value} (hS : PS w news p pd l b o t1 t2 t3 nl nb no bx ln os) (N : News h₀ L h news) : Kept news (offs [l, b, o] news) := fun q hq h1 _ =>
  off3 hq (nne Obj.cls N (a := q.1) (x := q.2) hq hS.hl h1) (nne Obj.cls N (a := q.1) (x := q.2) hq hS.hb h1) (nne Obj.cls N (a := q.1) (x := q.2) hq hS.ho h1)
end Mine
end
section
open PySem PySem.W PyProof.Rows PyProof.V PySem.Spec
namespace Mine
/-- the map with one name told otherwise -/
abbrev upm (x : Str) (ov : Option Value) (m : Str → Option Value) : Str → Option Value := fun y => if y = x then ov else m y
theorem upm_upm (x : Str) (a b : Option Value) (m : Str → Option Value) : upm x a (upm x b m) = upm x a m := by
  funext y
  by_cases h : y = x <;> simp [upm, h]
theorem upm_self (x : Str) (m : Str → Option Value) : upm x (m x) m = m := by
  funext y
  by_cases h : y = x <;> simp [upm, h]
/-- a turn that leaves all as it was -/
def SameEnd (h₀ : Heap) (L : Addr) (x : Str) (m₀ : Str → Option Value) (news own : List (Addr × Obj)) (s : Shared) (f : Flow) (s' : Shared) : Prop :=
  f = .next ∧ ∃ h' tk' ov, s' = { s with heap := h', toks := tk' } ∧ Fr h₀ L h' (upm x ov m₀) ∧ News h₀ L h' (news ++ own)
section
variable {prog : Program} {w : World} {A : Around} {E : Value → Shared → Prop} {s : Shared} {env : Env} {h₀ : Heap} {x : Str} {body : List Stmt} {Q : Flow → Shared → Prop}
theorem sameEnd {L : Addr} {m₀ : Str → Option Value} {news own : List (Addr × Obj)} {h' : Heap} {tk : Nat} {ov : Option Value} (F : Fr h₀ L h' (upm x ov m₀)) (N : News h₀ L h' (news ++ own)) : SameEnd h₀ L x m₀ news own s .next { s with heap := h', toks := tk } := ⟨rfl, h', tk, ov, rfl, F, N⟩
/-- a loop over a made list that reads alone -/
theorem read_loop {l : Addr} {vs : List Value} {nn : Nat} {m₀ : Str → Option Value} {news : List (Addr × Obj)} (hh : A.handled = none) (hl : (l, listOf vs.toArray nn) ∈ news) (F : Fr h₀ env.locals s.heap m₀) (N : News h₀ env.locals s.heap news)
    (turn : ∀ (i : Nat) (v : Value) h tk own, vs[i]? = some v → Fr h₀ env.locals h (upm x (some v) m₀) → News h₀ env.locals h (news ++ own) → wpAny (model prog w) A (execs body env) (SameEnd h₀ env.locals x m₀ news own { s with heap := h, toks := tk }) E { s with heap := h, toks := tk })
    (done : ∀ h tk ov, Fr h₀ env.locals h (upm x ov m₀) → News h₀ env.locals h news → Q .next { s with heap := h, toks := tk }) :
    wpAny (model prog w) A (pyIter (.ref l)) (fun it s₂ => LoopAtV prog w A h₀ env x body Q E it s₂) E s := by
  refine kdl_iter (fun _ m nx => (∃ ov, m = upm x ov m₀) ∧ nx = news) hh hl F N ⟨⟨m₀ x, (upm_self x m₀).symm⟩, rfl⟩ ?_ ?_
  · rintro i v m₁ news₁ h tk own hv hoff hl₁ ⟨⟨ov, rfl⟩, rfl⟩ F₁ N₁
    have e : (fun y => if y = x then some v else upm x ov m₀ y) = upm x (some v) m₀ := upm_upm x (some v) ov m₀
    rw [e] at F₁
    refine wpAny_mono (turn i v h tk own hv F₁ N₁) (fun f s₂ hx => ?_) fun _ _ e => e
    obtain ⟨rfl, h', tk', ov', rfl, F', N'⟩ := hx
    exact InvEndG.intro F' N' ⟨hl₁, ⟨⟨ov', rfl⟩, rfl⟩⟩ hoff (fun p hp => List.mem_append_left _ hp) fun p hp => List.mem_append_right _ hp
  · rintro m₁ news₁ h tk ⟨⟨ov, rfl⟩, rfl⟩ F₁ N₁
    exact done h tk ov F₁ N₁
/-- a turn that stores into the boxes -/
def BoxEnd (w : World) (h₀ : Heap) (L : Addr) (x : Str) (m₀ : Str → Option Value) (nx own : List (Addr × Obj)) (r : BoxR) (s : Shared) (f : Flow) (s' : Shared) : Prop :=
  f = .next ∧ ∃ (h' : Heap) (tk' : Nat) (ov : Option Value) (r' : BoxR), s' = { s with heap := h', toks := tk' } ∧ Fr h₀ L h' (upm x ov m₀) ∧ r'.ba = r.ba ∧ r'.bd = r.bd ∧ (r'.f == 0) = false ∧ News h₀ L h' ((r.bd, r'.o w) :: offs [r.bd] (nx ++ own))
theorem PS.stored {h : Heap} {L : Addr} {news : List (Addr × Obj)} {p pd l b o : Addr} {t1 t2 t3 : Tok} {nl nb no : Nat} {bx : List BoxR} {ln : List LineR} {os : List Value} (hS : PS w news p pd l b o t1 t2 t3 nl nb no bx ln os) (N : News h₀ L h news) {i : Nat} {r r' : BoxR} (hi : bx[i]? = some r) (h1 : r'.ba = r.ba) (h2 : r'.bd = r.bd) :
    PS w ((r.bd, r'.o w) :: offs [r.bd] news) p pd l b o t1 t2 t3 nl nb no (bx.set i r') ln os := by
  have hr : r ∈ bx := List.mem_of_getElem? hi
  have hrm := (hS.hbx r hr).2
  have put : ∀ {a : Addr} {x : Obj}, (a, x) ∈ news → @Ne Nat a r.bd → (a, x) ∈ (r.bd, r'.o w) :: offs [r.bd] news := fun hx hne => List.mem_cons_of_mem _ (mem_offs.mpr ⟨hx, fun hm => hne (List.mem_singleton.mp hm)⟩)
  have hlen : i < bx.length := (List.getElem?_eq_some_iff.mp hi).1
  have hmap : (bx.set i r').map BoxR.v = bx.map BoxR.v := by
    rw [List.map_set]
    refine PySem.W.X.set_same ?_
    rw [List.getElem?_map, hi]
    show some (Value.ref r.ba) = some (Value.ref r'.ba)
    rw [h1]
  have hmap2 : (bx.set i r').map (·.bd) = bx.map (·.bd) := by
    rw [List.map_set]
    refine PySem.W.X.set_same ?_
    rw [List.getElem?_map, hi]
    show some r.bd = some r'.bd
    rw [h2]
  refine ⟨put hS.hp (nne tagOf N hS.hp hrm (fun e => by simp [tagOf] at e)), put hS.hpd (nne tagOf N hS.hpd hrm (fun e => ?_)), put hS.hl (nne tagOf N hS.hl hrm (fun e => by simp [tagOf] at e)), ?_, put hS.ho (nne tagOf N hS.ho hrm (fun e => by simp [tagOf] at e)), hS.lb, hS.lo, hS.bo, ?_, by rw [hmap2]; exact hS.hbn, ?_⟩
  · exact absurd (Option.some.inj (congrArg Prod.snd e)) (by decide)
  · rw [hmap]
    exact put hS.hb (nne tagOf N hS.hb hrm (fun e => by simp [tagOf] at e))
  · intro q hq
    obtain ⟨j, hj⟩ := List.getElem?_of_mem hq
    rw [List.getElem?_set] at hj
    by_cases hij : i = j
    · subst hij
      simp only [if_true, hlen] at hj
      cases hj
      rw [h1, h2]
      refine ⟨put (hS.hbx r hr).1 (nne tagOf N (hS.hbx r hr).1 hrm (fun e => by simp [tagOf] at e)), List.mem_cons_self⟩
    · rw [if_neg hij] at hj
      have hq' : q ∈ bx := List.mem_of_getElem? hj
      refine ⟨put (hS.hbx q hq').1 (nne tagOf N (hS.hbx q hq').1 hrm (fun e => by simp [tagOf] at e)), put (hS.hbx q hq').2 (fun e => ?_)⟩
      obtain ⟨hj1, hj2⟩ := List.getElem?_eq_some_iff.mp hj
      obtain ⟨hi1, hi2⟩ := List.getElem?_eq_some_iff.mp hi
      refine hij ((List.getElem_inj (xs := bx.map (·.bd)) (h₀ := by simpa using hi1) (h₁ := by simpa using hj1) hS.hbn).mp ?_)
      rw [List.getElem_map, List.getElem_map, hi2, hj2]
      exact e.symm
  · intro q hq
    refine ⟨put (hS.hln q hq).1 (nne tagOf N (hS.hln q hq).1 hrm (fun e => by simp [tagOf] at e)), put (hS.hln q hq).2 (nne tagOf N (hS.hln q hq).2 hrm (fun e => ?_))⟩
    exact absurd (Option.some.inj (congrArg Prod.snd e)) (by decide)
/-- the loop that stores into the boxes -/
theorem store_loop {p pd l b o : Addr} {t1 t2 t3 : Tok} {nl nb no : Nat} {bx : List BoxR} {ln : List LineR} {os : List Value} {m₀ : Str → Option Value} {news : List (Addr × Obj)} (hh : A.handled = none) (hS : PS w news p pd l b o t1 t2 t3 nl nb no bx ln os) (hol : os.length = bx.length) (F : Fr h₀ env.locals s.heap m₀) (N : News h₀ env.locals s.heap news)
    (turn : ∀ (i : Nat) (v : Value) (r : BoxR) nx h tk own (bx' : List BoxR), os[i]? = some v → i < bx.length → bx'[i]? = some r → PS w nx p pd l b o t1 t2 t3 nl nb no bx' ln os → Fr h₀ env.locals h (upm x (some v) m₀) → News h₀ env.locals h (nx ++ own) → wpAny (model prog w) A (execs body env) (BoxEnd w h₀ env.locals x m₀ nx own r { s with heap := h, toks := tk }) E { s with heap := h, toks := tk })
    (done : ∀ h tk ov nx bx', Fr h₀ env.locals h (upm x ov m₀) → News h₀ env.locals h nx → Kept news nx → PS w nx p pd l b o t1 t2 t3 nl nb no bx' ln os → bx'.length = bx.length → (∀ r ∈ bx', (r.f == 0) = false) → Q .next { s with heap := h, toks := tk }) :
    wpAny (model prog w) A (pyIter (.ref o)) (fun it s₂ => LoopAtV prog w A h₀ env x body Q E it s₂) E s := by
  refine kdl_iter (fun i m nx => (∃ ov, m = upm x ov m₀) ∧ Kept news nx ∧ ∃ bx', PS w nx p pd l b o t1 t2 t3 nl nb no bx' ln os ∧ bx'.length = bx.length ∧ ∀ j r, j < i → bx'[j]? = some r → (r.f == 0) = false) hh hS.ho F N ⟨⟨m₀ x, (upm_self x m₀).symm⟩, Kept.sub fun _ h => h, bx, hS, rfl, fun j r hj => absurd hj (Nat.not_lt_zero _)⟩ ?_ ?_
  · rintro i v m₁ nx h tk own hv hoff hl₁ ⟨⟨ov, rfl⟩, hK, bx', hS', hlen, hf⟩ F₁ N₁
    have e : (fun y => if y = x then some v else upm x ov m₀ y) = upm x (some v) m₀ := upm_upm x (some v) ov m₀
    rw [e] at F₁
    have hi : i < bx.length := by rw [← hol]; exact (List.getElem?_eq_some_iff.mp hv).1
    have hr : bx'[i]? = some bx'[i] := by simp [hlen, hi]
    refine wpAny_mono (turn i v bx'[i] nx h tk own bx' hv hi hr hS' F₁ N₁) (fun f s₂ hx => ?_) fun _ _ e => e
    obtain ⟨rfl, h', tk', ov', r', rfl, F', h1, h2, h3, N'⟩ := hx
    have Nx : News h₀ env.locals h nx := nsub N₁ fun q hq => List.mem_append_left _ hq
    have hS2 := hS'.stored Nx hr h1 h2
    have hbdm : (bx'[i].bd, bx'[i].o w) ∈ nx := (hS'.hbx _ (List.mem_of_getElem? hr)).2
    refine InvEndG.intro F' N' ⟨hS2.ho, ⟨⟨ov', rfl⟩, hK.trans (fun q hq _ h2 => List.mem_cons_of_mem _ (mem_offs.mpr ⟨hq, fun hm => nne Obj.cls Nx (a := q.1) (x := q.2) hq hbdm h2 (List.mem_singleton.mp hm)⟩)), _, hS2, by rw [List.length_set]; exact hlen, ?_⟩⟩ ?_ ?_ ?_
    · intro j r hj hjr
      rw [List.getElem?_set] at hjr
      by_cases hij : i = j
      · rw [if_pos hij] at hjr
        split at hjr
        · cases hjr; exact h3
        · cases hjr
      · rw [if_neg hij] at hjr
        exact hf j r (by omega) hjr
    · intro q hq c hc
      refine hoff q hq c ?_
      obtain ⟨q', hq', rfl⟩ := List.mem_map.mp hc
      rcases List.mem_cons.mp hq' with rfl | hq'
      · exact List.mem_map.mpr ⟨_, hbdm, rfl⟩
      · exact List.mem_map.mpr ⟨q', (mem_offs.mp hq').1, rfl⟩
    · intro q hq
      rcases List.mem_cons.mp hq with rfl | hq
      · exact List.mem_cons_self
      · exact List.mem_cons_of_mem _ (mem_offs.mpr ⟨List.mem_append_left _ (mem_offs.mp hq).1, (mem_offs.mp hq).2⟩)
    · intro q hq
      refine List.mem_cons_of_mem _ (mem_offs.mpr ⟨List.mem_append_right _ hq, fun hm => ?_⟩)
      exact hoff q hq _ (List.mem_map.mpr ⟨_, hbdm, rfl⟩) (List.mem_singleton.mp hm)
  · rintro m₁ nx h tk ⟨⟨ov, rfl⟩, hK, bx', hS', hlen, hf⟩ F₁ N₁
    refine done h tk ov nx bx' F₁ N₁ hK hS' hlen fun r hr => ?_
    obtain ⟨j, hj⟩ := List.getElem?_of_mem hr
    exact hf j r (by rw [hol, ← hlen]; exact (List.getElem?_eq_some_iff.mp hj).1) hj
end
def OsAll (os : List Value) : Prop := ∀ (i : Nat) (v : Value), os[i]? = some v → ∃ u, v = Value.int (i : Int) u
section
variable {prog : Program} {w : World} {A : Around} {E : Value → Shared → Prop} {s : Shared} {env : Env} {h₀ : Heap} {x : Str} {body : List Stmt} {Q : Flow → Shared → Prop}
theorem read_boxes {p pd l b o : Addr} {t1 t2 t3 : Tok} {nl nb no : Nat} {bx : List BoxR} {ln : List LineR} {os : List Value} {m₀ : Str → Option Value} {rest : List (Addr × Obj)} (F : Fr h₀ env.locals s.heap m₀) (N : News h₀ env.locals s.heap ((p, instObj 242 pd) :: (pd, pdO w l b o t1 t2 t3) :: (l, listOf (ln.map LineR.v).toArray nl) :: (b, listOf (bx.map BoxR.v).toArray nb) :: (o, listOf os.toArray no) :: rest)) (hh : A.handled = none) (hos : OsAll os) (hol : os.length = bx.length) (hbl : bx.length ≤ 100) (hbx : ∀ r ∈ bx, (r.ba, instObj 114 r.bd) ∈ rest ∧ (r.bd, r.o w) ∈ rest)
    (turn : ∀ (i : Nat) (u : Tok) (r : BoxR) (h : Heap) (tk : Nat) (rest' own : List (Addr × Obj)), i ≤ 100 → (bx.map BoxR.v)[i]? = some r.v → (r.ba, instObj 114 r.bd) ∈ rest' → (r.bd, r.o w) ∈ rest' → rest' = rest ++ own → Fr h₀ env.locals h (upm x (some (.int (i : Int) u)) m₀) →
      News h₀ env.locals h ((p, instObj 242 pd) :: (pd, pdO w l b o t1 t2 t3) :: (l, listOf (ln.map LineR.v).toArray nl) :: (b, listOf (bx.map BoxR.v).toArray nb) :: (o, listOf os.toArray no) :: rest') →
      wpAny (model prog w) A (execs body env) (SameEnd h₀ env.locals x m₀ ((p, instObj 242 pd) :: (pd, pdO w l b o t1 t2 t3) :: (l, listOf (ln.map LineR.v).toArray nl) :: (b, listOf (bx.map BoxR.v).toArray nb) :: (o, listOf os.toArray no) :: rest) own { s with heap := h, toks := tk }) E { s with heap := h, toks := tk })
    (done : ∀ h tk ov, Fr h₀ env.locals h (upm x ov m₀) → News h₀ env.locals h ((p, instObj 242 pd) :: (pd, pdO w l b o t1 t2 t3) :: (l, listOf (ln.map LineR.v).toArray nl) :: (b, listOf (bx.map BoxR.v).toArray nb) :: (o, listOf os.toArray no) :: rest) → Q .next { s with heap := h, toks := tk }) :
    wpAny (model prog w) A (pyIter (.ref o)) (fun it s₂ => LoopAtV prog w A h₀ env x body Q E it s₂) E s := by
  refine read_loop hh (l := o) (vs := os) (nn := no) (List.mem_cons_of_mem _ (List.mem_cons_of_mem _ (List.mem_cons_of_mem _ (List.mem_cons_of_mem _ List.mem_cons_self)))) F N ?_ done
  intro i v h tk own hv F₁ N₁
  obtain ⟨u, rfl⟩ := hos i v hv
  have hi : i < bx.length := by rw [← hol]; exact (List.getElem?_eq_some_iff.mp hv).1
  have hr : bx[i]? = some bx[i] := by simp [hi]
  have hm := hbx _ (List.mem_of_getElem? hr)
  exact turn i u bx[i] h tk (rest ++ own) own (by omega) (by rw [List.getElem?_map, hr]; rfl) (List.mem_append_left _ hm.1) (List.mem_append_left _ hm.2) rfl F₁ N₁
def BoxEnd1 (w : World) (h₀ : Heap) (L : Addr) (x : Str) (m₀ : Str → Option Value) (r : BoxR) (rest : List (Addr × Obj)) (s : Shared) (f : Flow) (s' : Shared) : Prop :=
  f = .next ∧ ∃ (h' : Heap) (tk' : Nat) (ov : Option Value) (r' : BoxR), s' = { s with heap := h', toks := tk' } ∧ Fr h₀ L h' (upm x ov m₀) ∧ r'.ba = r.ba ∧ r'.bd = r.bd ∧ (r'.f == 0) = false ∧ News h₀ L h' ((r.bd, r'.o w) :: rest)
theorem store_boxes {p pd l b o : Addr} {t1 t2 t3 : Tok} {nl nb no : Nat} {bx : List BoxR} {ln : List LineR} {os : List Value} {m₀ : Str → Option Value} {news : List (Addr × Obj)} (F : Fr h₀ env.locals s.heap m₀) (N : News h₀ env.locals s.heap news) (hh : A.handled = none) (hS : PS w news p pd l b o t1 t2 t3 nl nb no bx ln os) (hos : OsAll os) (hol : os.length = bx.length) (hbl : bx.length ≤ 100)
    (turn : ∀ (i : Nat) (u : Tok) (r : BoxR) (h : Heap) (tk : Nat) (rest : List (Addr × Obj)) (bx' : List BoxR), i ≤ 100 → (bx'.map BoxR.v)[i]? = some r.v → @Ne Nat p r.bd → @Ne Nat pd r.bd → @Ne Nat b r.bd → @Ne Nat r.ba r.bd → (∀ q ∈ rest, q.1 ≠ r.bd) → Fr h₀ env.locals h (upm x (some (.int (i : Int) u)) m₀) →
      News h₀ env.locals h ((p, instObj 242 pd) :: (pd, pdO w l b o t1 t2 t3) :: (b, listOf (bx'.map BoxR.v).toArray nb) :: (r.ba, instObj 114 r.bd) :: (r.bd, r.o w) :: rest) →
      wpAny (model prog w) A (execs body env) (BoxEnd1 w h₀ env.locals x m₀ r rest { s with heap := h, toks := tk }) E { s with heap := h, toks := tk })
    (done : ∀ h tk ov nx bx', Fr h₀ env.locals h (upm x ov m₀) → News h₀ env.locals h nx → Kept news nx → PS w nx p pd l b o t1 t2 t3 nl nb no bx' ln os → bx'.length = bx.length → (∀ r ∈ bx', (r.f == 0) = false) → Q .next { s with heap := h, toks := tk }) :
    wpAny (model prog w) A (pyIter (.ref o)) (fun it s₂ => LoopAtV prog w A h₀ env x body Q E it s₂) E s := by
  refine store_loop hh hS hol F N ?_ done
  intro i v r nx h tk own bx' hv hi hr hS' F₁ N₁
  obtain ⟨u, rfl⟩ := hos i v hv
  have hm := hS'.hbx r (List.mem_of_getElem? hr)
  have Nx : News h₀ env.locals h nx := nsub N₁ fun q hq => List.mem_append_left _ hq
  refine wpAny_mono (turn i u r h tk (offs [r.bd] (nx ++ own)) bx' (by omega) (by rw [List.getElem?_map, hr]; rfl) (nne tagOf Nx hS'.hp hm.2 (fun e => by simp [tagOf] at e)) (nne tagOf Nx hS'.hpd hm.2 (fun e => absurd (Option.some.inj (congrArg Prod.snd e)) (by decide))) (nne tagOf Nx hS'.hb hm.2 (fun e => by simp [tagOf] at e)) (nne tagOf Nx hm.1 hm.2 (fun e => by simp [tagOf] at e)) (offs_ne (by simp)) F₁ (nsub N₁ ?_)) (fun f s₂ hx => hx) fun _ _ e => e
  intro q hq
  simp only [List.mem_cons] at hq
  rcases hq with rfl | rfl | rfl | rfl | rfl | hq
  · exact List.mem_append_left _ hS'.hp
  · exact List.mem_append_left _ hS'.hpd
  · exact List.mem_append_left _ hS'.hb
  · exact List.mem_append_left _ hm.1
  · exact List.mem_append_left _ hm.2
  · exact (mem_offs.mp hq).1
end
section
variable {prog : Program} {w : World} {A : Around} {E : Value → Shared → Prop} {s : Shared} {env : Env} {h₀ : Heap} {x : Str} {body : List Stmt} {Q : Flow → Shared → Prop}
/-- a loop over the top's empty tuple -/
theorem iter_empty {l : Addr} {o : Obj} {n : Nat} {K : Frag} {m : Str → Option Value} {news : List (Addr × Obj)} (hh : A.handled = none) (X : K.In h₀) (hk : K.lookup l = some o) (ho : o.cls = .type "tuple" ∧ o.data = .seq #[] n) (F : Fr h₀ env.locals s.heap m) (N : News h₀ env.locals s.heap news)
    (done : ∀ h tk, Fr h₀ env.locals h m → News h₀ env.locals h news → Q .next { s with heap := h, toks := tk }) :
    wpAny (model prog w) A (pyIter (.ref l)) (fun it s₂ => LoopAtV prog w A h₀ env x body Q E it s₂) E s := by
  have hol : h₀.get? l = some o := X _ _ hk
  have hlt : l < h₀.objs.size := Heap.lt_size hol
  have hls : s.heap.IsTuple l #[] := ⟨o, F.keep _ _ hol, ho.1, n, ho.2⟩
  have hne : l ≠ s.heap.objs.size := Nat.ne_of_lt (Nat.lt_trans (Nat.lt_of_lt_of_le hlt F.above) F.ns.lt)
  refine wpAny_pyIter_tuple hls ?_
  have W := Walks.tuple (prog := prog) (w := w) hh s.heap.objs.size l hne #[]
  have up : ∀ b o, s.heap.get? b = some o → (s.heap.push { cls := .type "tuple_iterator", data := .fields #[.ref l, .int 0 0] }).get? b = some o := fun b o e => Heap.get?_push_of_some _ e
  refine ⟨_, _, _, 0, _, _, m, news, (fun _ m' n' => m' = m ∧ n' = news), rfl, W, ?_, ?_, ?_, ⟨⟨_, Heap.get?_push_size _ rfl, rfl, rfl⟩, IsTup.keeps hls up⟩, F.push _, (fun p hp => ⟨Heap.get?_push_of_some _ (N p hp).1, (N p hp).2⟩), ⟨rfl, rfl⟩, ?_, ?_⟩
  · intro hm
    rcases List.mem_cons.mp hm with e | hm
    · exact absurd F.ns.lt (e ▸ Nat.lt_irrefl _)
    · exact absurd (Nat.lt_of_lt_of_le hlt F.above) ((List.mem_singleton.mp hm) ▸ Nat.lt_irrefl _)
  · intro b hb
    rw [List.mem_singleton.mp hb]
    exact next_is_new F
  · intro p hp hI
    exact absurd (Heap.lt_size (N p hp).1) ((List.mem_singleton.mp hI) ▸ Nat.lt_irrefl _)
  · rintro i v m₁ news₁ s₁ own _ hin
    exact absurd hin (Nat.not_lt_zero _)
  · rintro h' tk m' news' F' N' _ ⟨rfl, rfl⟩
    exact done h' tk F' N'
end
section
variable {prog : Program} {w : World} {A : Around} {E : Value → Shared → Prop} {s : Shared} {h₀ : Heap} {L : Addr} {m : Str → Option Value} {news : List (Addr × Obj)} {Q : Value → Shared → Prop}
theorem listTop {K : Frag} {a : Addr} {o : Obj} {n : Nat} (X : K.In h₀) (hk : K.lookup a = some o) (ho : o.cls = .type "tuple" ∧ o.data = .seq #[] n) (F : Fr h₀ L s.heap m) (N : News h₀ L s.heap news)
    (h : ∀ D c h', Fr h₀ L h' m → News h₀ L h' ((D, listOf #[] c) :: news) → (∀ q ∈ news, q.1 < D) → Q (.ref D) { s with heap := h' }) : wpAny (model prog w) A (call (.type "list") [.ref a]) Q E s :=
  list_copyKT (items := #[]) F N ⟨o, F.keep _ _ (X _ _ hk), ho.1, n, ho.2⟩ h (Nat.zero_le _)
theorem tupleL {a : Addr} {vs : List Value} {n : Nat} (F : Fr h₀ L s.heap m) (N : News h₀ L s.heap news) (hm : (a, listOf vs.toArray n) ∈ news) (hz : vs.length ≤ 1000)
    (h : ∀ D h', Fr h₀ L h' m → News h₀ L h' ((D, ({ cls := .type "tuple", data := .seq vs.toArray } : Obj)) :: news) → (∀ p ∈ news, p.1 < D) → Q (.ref D) { s with heap := h' }) : wpAny (model prog w) A (call (.type "tuple") [.ref a]) Q E s :=
  kde_tupleOf F N (newsList N hm) (by rw [List.size_toArray]; omega) (by simp) h
end
section
variable {w : World} {rest : List (Addr × Obj)} {p pd l b o : Addr} {t1 t2 t3 : Tok} {nl nb no : Nat} {bx : List BoxR} {ln : List LineR} {os : List Value}
/-- a line more -/
theorem PS.lined {e1 e2 : Addr × Obj} {x d : Addr} {fo re bo : Value} {a1 a2 a3 a4 u : Tok} (hbx : ∀ r ∈ bx, (r.ba, instObj 114 r.bd) ∈ rest ∧ (r.bd, r.o w) ∈ rest) (hln : ∀ r ∈ ln, (r.la, instObj 93 r.ld) ∈ rest ∧ (r.ld, r.o w) ∈ rest) (hbn : (bx.map (·.bd)).Nodup) (ap : Apart rest p pd l b o) :
    PS w (e1 :: e2 :: (x, instObj 93 d) :: (d, dictOf [ent w "formula" a1 fo, ent w "rule" a2 (.str (Str.ofString "assume") u), ent w "refs" a3 re, ent w "boxes" a4 bo] 4) :: (p, instObj 242 pd) :: (pd, pdO w l b o t1 t2 t3) :: (l, listOf (ln.map LineR.v ++ [Value.ref x]).toArray nl) :: (b, listOf (bx.map BoxR.v).toArray nb) :: (o, listOf os.toArray no) :: rest)
      p pd l b o t1 t2 t3 nl nb no bx (ln ++ [⟨x, d, fo, re, bo, a1, a2, a3, a4, u⟩]) os where
  hp := by simp
  hpd := by simp
  hl := by simp
  hb := by simp
  ho := by simp
  lb := ap.lb
  lo := ap.lo
  bo := ap.bo
  hbx := by
    intro r hr
    have := hbx r hr
    simp only [List.mem_cons, this, or_true, and_self]
  hbn := hbn
  hln := by
    intro r hr
    rcases List.mem_append.mp hr with hr | hr
    · have := hln r hr
      simp only [List.mem_cons, this, or_true, and_self]
    · rw [List.mem_singleton.mp hr]
      exact ⟨List.mem_cons_of_mem _ (List.mem_cons_of_mem _ List.mem_cons_self), List.mem_cons_of_mem _ (List.mem_cons_of_mem _ (List.mem_cons_of_mem _ List.mem_cons_self))⟩
end
theorem boxEnd1 {w : World} {h₀ h' : Heap} {L : Addr} {x : Str} {m₀ : Str → Option Value} {r : BoxR} {rest : List (Addr × Obj)} {s : Shared} {tk : Nat} {ov : Option Value} {f' g' : Int} {uf ug : Tok} {e1 e2 e3 e4 : Addr × Obj} (F : Fr h₀ L h' (upm x ov m₀))
    (N : News h₀ L h' (e1 :: e2 :: e3 :: e4 :: (r.bd, dictOf [ent w "parent" r.tp (.int r.pa r.up), ent w "name" r.tn .none, ent w "first" r.tf (.int f' uf), ent w "last" r.tg (.int g' ug)] 4) :: rest)) (hf : (f' == 0) = false) :
    BoxEnd1 w h₀ L x m₀ r rest s .next { s with heap := h', toks := tk } :=
  ⟨rfl, h', tk, ov, { r with f := f', g := g', uf := uf, ug := ug }, rfl, F, rfl, rfl, hf, nsub N fun _ hq => List.mem_cons_of_mem _ (List.mem_cons_of_mem _ (List.mem_cons_of_mem _ (List.mem_cons_of_mem _ hq)))⟩
end Mine
end
section
open PySem PySem.W PyProof.Rows PyProof.V PySem.Spec
namespace Mine
theorem kl_last_app (y : Value) : ∀ p : List Value, kl_last (p ++ [y]) = some (p, y)
  | [] => rfl
  | [x] => rfl
  | x :: z :: r => by
    have ih := kl_last_app y (z :: r)
    rw [List.cons_append] at ih
    rw [List.cons_append, List.cons_append]
    unfold kl_last
    rw [ih]
section
variable {prog : Program} {w : World} {A : Around} {E : Value → Shared → Prop} {s : Shared} {h₀ : Heap} {L : Addr} {m : Str → Option Value} {news : List (Addr × Obj)} {Q : Value → Shared → Prop}
theorem popL {a : Addr} {vs : List Value} {n : Nat} {x : Value} {news' : List (Addr × Obj)} (F : Fr h₀ L s.heap m) (N : News h₀ L s.heap news) (U : Upd a (listOf (vs ++ [x]).toArray n) (listOf vs.toArray (n + 1)) news news') (hsz : vs.length ≤ 1000)
    (h : ∀ h', Fr h₀ L h' m → News h₀ L h' news' → Q x { s with heap := h' }) : wpAny (model prog w) A (call (.builtin "list.pop") [.ref a]) Q E s := by
  refine kl_pop (its := (vs ++ [x]).toArray) F N (by simpa using kl_last_app x vs) U ?_ h
  rw [sizeLine_eq]
  simp
  omega
end
section
variable {w : World} {rest : List (Addr × Obj)} {p pd l b o : Addr} {t1 t2 t3 : Tok} {nl nb no : Nat} {bx : List BoxR} {ln : List LineR} {os : List Value}
/-- the ledger with the proof in front -/
theorem PS.plain {pre : List (Addr × Obj)} (hbx : ∀ r ∈ bx, (r.ba, instObj 114 r.bd) ∈ rest ∧ (r.bd, r.o w) ∈ rest) (hln : ∀ r ∈ ln, (r.la, instObj 93 r.ld) ∈ rest ∧ (r.ld, r.o w) ∈ rest) (hbn : (bx.map (·.bd)).Nodup) (ap : Apart rest p pd l b o) :
    PS w (pre ++ ((p, instObj 242 pd) :: (pd, pdO w l b o t1 t2 t3) :: (l, listOf (ln.map LineR.v).toArray nl) :: (b, listOf (bx.map BoxR.v).toArray nb) :: (o, listOf os.toArray no) :: rest))
      p pd l b o t1 t2 t3 nl nb no bx ln os where
  hp := by simp
  hpd := by simp
  hl := by simp
  hb := by simp
  ho := by simp
  lb := ap.lb
  lo := ap.lo
  bo := ap.bo
  hbx := by
    intro r hr
    have := hbx r hr
    simp only [List.mem_append, List.mem_cons, this, or_true, and_self]
  hbn := hbn
  hln := by
    intro r hr
    have := hln r hr
    simp only [List.mem_append, List.mem_cons, this, or_true, and_self]
end
/-- what rules has counted -/
def counted (k : Nat) : List (PyData × PyData) := if k = 0 then [] else [(.str (Str.ofString "assume"), .int (k : Int))]
def DEnd (prog : Program) (w : World) (h₀ : Heap) (L : Addr) (x : Str) (m₀ : Str → Option Value) (d : Addr) (tl : List (Addr × Obj)) (k : Int) (s : Shared) (f : Flow) (s' : Shared) : Prop :=
  f = .next ∧ ∃ (h' : Heap) (tk' : Nat) (ov : Option Value) (o' : Obj) (kvs' : List (Str × Value)), s' = { s with heap := h', toks := tk' } ∧ Fr h₀ L h' (upm x ov m₀) ∧ News h₀ L h' ((d, o') :: tl) ∧ o'.IsDictOf (PySem.strKind prog w) kvs' ∧ FlatPairs PyData.str kvs' [(.str (Str.ofString "assume"), .int k)]
section
variable {prog : Program} {w : World} {A : Around} {E : Value → Shared → Prop} {s : Shared} {env : Env} {h₀ : Heap} {x : Str} {body : List Stmt} {Q : Flow → Shared → Prop}
theorem dEnd {L d : Addr} {m₀ : Str → Option Value} {tl : List (Addr × Obj)} {k : Int} {h' : Heap} {tk : Nat} {ov : Option Value} {o' : Obj} {kvs' : List (Str × Value)} (F : Fr h₀ L h' (upm x ov m₀)) (N : News h₀ L h' ((d, o') :: tl)) (hd : o'.IsDictOf (PySem.strKind prog w) kvs') (hf : FlatPairs PyData.str kvs' [(.str (Str.ofString "assume"), .int k)]) :
    DEnd prog w h₀ L x m₀ d tl k s .next { s with heap := h', toks := tk } := ⟨rfl, h', tk, ov, o', kvs', rfl, F, N, hd, hf⟩
theorem rules_loop {l d : Addr} {o : Obj} {kvs : List (Str × Value)} {ln : List LineR} {nl : Nat} {m₀ : Str → Option Value} {rest : List (Addr × Obj)} (F : Fr h₀ env.locals s.heap m₀) (N : News h₀ env.locals s.heap ((d, o) :: rest)) (hh : A.handled = none) (hl : (l, listOf (ln.map LineR.v).toArray nl) ∈ rest) (hln : ∀ r ∈ ln, (r.la, instObj 93 r.ld) ∈ rest ∧ (r.ld, r.o w) ∈ rest) (hd : ∀ q ∈ rest, q.1 ≠ d)
    (ho : o.IsDictOf (PySem.strKind prog w) kvs) (hf : FlatPairs PyData.str kvs [])
    (turn0 : ∀ (r : LineR) (h : Heap) (tk : Nat) (tl : List (Addr × Obj)) (o : Obj) (kvs : List (Str × Value)), (r.la, instObj 93 r.ld) ∈ tl → (r.ld, r.o w) ∈ tl → (∀ q ∈ tl, q.1 ≠ d) → o.IsDictOf (PySem.strKind prog w) kvs → FlatPairs PyData.str kvs [] → Fr h₀ env.locals h (upm x (some r.v) m₀) → News h₀ env.locals h ((d, o) :: tl) →
      wpAny (model prog w) A (execs body env) (DEnd prog w h₀ env.locals x m₀ d tl 1 { s with heap := h, toks := tk }) E { s with heap := h, toks := tk })
    (turn1 : ∀ (r : LineR) (h : Heap) (tk : Nat) (tl : List (Addr × Obj)) (o : Obj) (kvs : List (Str × Value)) (i : Nat), i < ln.length → (r.la, instObj 93 r.ld) ∈ tl → (r.ld, r.o w) ∈ tl → (∀ q ∈ tl, q.1 ≠ d) → o.IsDictOf (PySem.strKind prog w) kvs → FlatPairs PyData.str kvs [(.str (Str.ofString "assume"), .int (i : Int))] → Fr h₀ env.locals h (upm x (some r.v) m₀) → News h₀ env.locals h ((d, o) :: tl) →
      wpAny (model prog w) A (execs body env) (DEnd prog w h₀ env.locals x m₀ d tl ((i : Int) + 1) { s with heap := h, toks := tk }) E { s with heap := h, toks := tk })
    (done : ∀ h tk ov o kvs, o.IsDictOf (PySem.strKind prog w) kvs → FlatPairs PyData.str kvs (counted ln.length) → Fr h₀ env.locals h (upm x ov m₀) → News h₀ env.locals h ((d, o) :: rest) → Q .next { s with heap := h, toks := tk }) :
    wpAny (model prog w) A (pyIter (.ref l)) (fun it s₂ => LoopAtV prog w A h₀ env x body Q E it s₂) E s := by
  refine kdl_iter (fun i m nx => (∃ ov, m = upm x ov m₀) ∧ ∃ o kvs, nx = (d, o) :: rest ∧ o.IsDictOf (PySem.strKind prog w) kvs ∧ FlatPairs PyData.str kvs (counted i)) hh (List.mem_cons_of_mem _ hl) F N ⟨⟨m₀ x, (upm_self x m₀).symm⟩, o, kvs, rfl, ho, hf⟩ ?_ ?_
  · rintro i v m₁ nx h tk own hv hoff hl₁ ⟨⟨ov, rfl⟩, o, kvs, rfl, ho', hf'⟩ F₁ N₁
    have e : (fun y => if y = x then some v else upm x ov m₀ y) = upm x (some v) m₀ := upm_upm x (some v) ov m₀
    rw [e] at F₁
    rw [List.getElem?_map] at hv
    obtain ⟨r, hr, rfl⟩ := Option.map_eq_some_iff.mp hv
    have hrm := hln r (List.mem_of_getElem? hr)
    have hi : i < ln.length := (List.getElem?_eq_some_iff.mp hr).1
    have hoffd : ∀ q ∈ rest ++ own, q.1 ≠ d := by
      intro q hq
      rcases List.mem_append.mp hq with hq | hq
      · exact hd q hq
      · exact fun e => hoff q hq d (by simp) e
    have fin : ∀ f s₂, DEnd prog w h₀ env.locals x m₀ d (rest ++ own) ((i : Int) + 1) { s with heap := h, toks := tk } f s₂ → InvPostG h₀ env.locals (fun m' nx => (l, listOf (ln.map LineR.v).toArray nl) ∈ nx ∧ (∃ ov, m' = upm x ov m₀) ∧ ∃ o kvs, nx = (d, o) :: rest ∧ o.IsDictOf (PySem.strKind prog w) kvs ∧ FlatPairs PyData.str kvs (counted (i + 1))) own { s with heap := h, toks := tk } Q f s₂ := by
      rintro f s₂ ⟨rfl, h', tk', ov', o', kvs', rfl, F', N', hd', hf2⟩
      refine InvEndG.intro F' N' ⟨List.mem_cons_of_mem _ hl, ⟨ov', rfl⟩, o', kvs', rfl, hd', ?_⟩ ?_ ?_ ?_
      · simpa [counted] using hf2
      · intro q hq c hc
        exact hoff q hq c (by simpa using hc)
      · intro q hq
        rcases List.mem_cons.mp hq with rfl | hq
        · exact List.mem_cons_self
        · exact List.mem_cons_of_mem _ (List.mem_append_left _ hq)
      · exact fun q hq => List.mem_cons_of_mem _ (List.mem_append_right _ hq)
    by_cases hi0 : i = 0
    · subst hi0
      exact wpAny_mono (turn0 r h tk (rest ++ own) o kvs (List.mem_append_left _ hrm.1) (List.mem_append_left _ hrm.2) hoffd ho' (by simpa [counted] using hf') F₁ N₁) (fun f s₂ hx => fin f s₂ hx) fun _ _ e => e
    · exact wpAny_mono (turn1 r h tk (rest ++ own) o kvs i hi (List.mem_append_left _ hrm.1) (List.mem_append_left _ hrm.2) hoffd ho' (by simpa [counted, hi0] using hf') F₁ N₁) (fun f s₂ hx => fin f s₂ hx) fun _ _ e => e
  · rintro m₁ nx h tk ⟨⟨ov, rfl⟩, o, kvs, rfl, ho', hf'⟩ F₁ N₁
    rw [List.length_map] at hf'
    exact done h tk ov o kvs ho' hf' F₁ N₁
end
end Mine
end
section
open PySem PySem.W PyProof.Rows PyProof.V PySem.Spec
namespace Mine
section
variable {prog : Program} {w : World} {A : Around} {E : Value → Shared → Prop} {s : Shared} {Q : Value → Shared → Prop}
theorem mod6 {a : Int} {t u : Tok} (h : ∀ k : Nat, k < 6 → Q (.int (k : Int) s.toks) { s with toks := s.toks + 1 }) : wpAny (model prog w) A (binaryOp .Mod (.int a t) (.int 6 u)) Q E s := by
  refine mod_int' (by decide) ?_
  have h0 : 0 ≤ a.fmod 6 := Int.fmod_nonneg_of_pos _ (by decide)
  have h1 : a.fmod 6 < 6 := Int.fmod_lt_of_pos _ (by decide)
  have := h (a.fmod 6).toNat (by omega)
  rw [Int.toNat_of_nonneg h0] at this
  exact this
theorem modN {a : Int} {n : Nat} {t u : Tok} (h : ∀ k : Nat, k ≤ n → Q (.int (k : Int) s.toks) { s with toks := s.toks + 1 }) : wpAny (model prog w) A (binaryOp .Mod (.int a t) (.int ((n : Int) + 1) u)) Q E s := by
  refine mod_int' (by omega) ?_
  have h0 : 0 ≤ a.fmod ((n : Int) + 1) := Int.fmod_nonneg_of_pos _ (by omega)
  have h1 : a.fmod ((n : Int) + 1) < (n : Int) + 1 := Int.fmod_lt_of_pos _ (by omega)
  have := h (a.fmod ((n : Int) + 1)).toNat (by omega)
  rw [Int.toNat_of_nonneg h0] at this
  exact this
end
/-- the proof after so many assumptions, so many of its boxes open -/
def PN (w : World) (news : List (Addr × Obj)) (p pd l b o : Addr) (t1 t2 t3 : Tok) (n j : Nat) : Prop :=
  ∃ (nl nb no : Nat) (bx : List BoxR) (ln : List LineR) (os : List Value), PS w news p pd l b o t1 t2 t3 nl nb no bx ln os ∧ bx.length = n ∧ ln.length = n ∧ os.length = j ∧ OsAll os ∧ ∀ r ∈ bx, (r.f == 0) = false
/-- a turn's end -/
def PEnd (w : World) (h₀ : Heap) (L : Addr) (x : Str) (m₀ : Str → Option Value) (news : List (Addr × Obj)) (p pd l b o : Addr) (t1 t2 t3 : Tok) (n j : Nat) (s : Shared) (f : Flow) (s' : Shared) : Prop :=
  f = .next ∧ ∃ (h' : Heap) (tk' : Nat) (ov : Option Value) (news' : List (Addr × Obj)), s' = { s with heap := h', toks := tk' } ∧ Fr h₀ L h' (upm x ov m₀) ∧ News h₀ L h' news' ∧ Kept news news' ∧ PN w news' p pd l b o t1 t2 t3 n j
theorem pEnd {w : World} {h₀ h' : Heap} {L : Addr} {x : Str} {m₀ : Str → Option Value} {news news' : List (Addr × Obj)} {p pd l b o : Addr} {t1 t2 t3 : Tok} {n j : Nat} {s : Shared} {tk : Nat} {ov : Option Value} (F : Fr h₀ L h' (upm x ov m₀)) (N : News h₀ L h' news') (K : Kept news news') (P : PN w news' p pd l b o t1 t2 t3 n j) :
    PEnd w h₀ L x m₀ news p pd l b o t1 t2 t3 n j s .next { s with heap := h', toks := tk } := ⟨rfl, h', tk, ov, news', rfl, F, N, K, P⟩
theorem PN.mono {w : World} {news news' : List (Addr × Obj)} {p pd l b o : Addr} {t1 t2 t3 : Tok} {n j : Nat} (P : PN w news p pd l b o t1 t2 t3 n j) (h : ∀ q ∈ news, q ∈ news') : PN w news' p pd l b o t1 t2 t3 n j := by
  obtain ⟨nl, nb, no, bx, ln, os, hS, r⟩ := P
  exact ⟨nl, nb, no, bx, ln, os, ⟨h _ hS.hp, h _ hS.hpd, h _ hS.hl, h _ hS.hb, h _ hS.ho, hS.lb, hS.lo, hS.bo, fun r hr => ⟨h _ (hS.hbx r hr).1, h _ (hS.hbx r hr).2⟩, hS.hbn, fun r hr => ⟨h _ (hS.hln r hr).1, h _ (hS.hln r hr).2⟩⟩, r⟩
section
variable {prog : Program} {w : World} {A : Around} {E : Value → Shared → Prop} {s : Shared} {env : Env} {h₀ : Heap} {x : Str} {body : List Stmt} {Q : Flow → Shared → Prop}
/-- a loop over a range whose turns change the proof -/
theorem proof_loop {p pd l b o r : Addr} {t1 t2 t3 t₀ u₀ v₀ : Tok} {n : Nat} (N' J' : Nat → Nat) {m₀ : Str → Option Value} {news : List (Addr × Obj)} (hr : IsRange s.heap r 0 (n : Int) 1 t₀ u₀ v₀) (F : Fr h₀ env.locals s.heap m₀) (N : News h₀ env.locals s.heap news) (hh : A.handled = none) (hn : n < 100) (hP : PN w news p pd l b o t1 t2 t3 (N' 0) (J' 0))
    (turn : ∀ (i : Nat) (v : Value) (h : Heap) (tk : Nat) (nx : List (Addr × Obj)), i < n → PN w nx p pd l b o t1 t2 t3 (N' i) (J' i) → Fr h₀ env.locals h (upm x (some v) m₀) → News h₀ env.locals h nx →
      wpAny (model prog w) A (execs body env) (PEnd w h₀ env.locals x m₀ nx p pd l b o t1 t2 t3 (N' (i + 1)) (J' (i + 1)) { s with heap := h, toks := tk }) E { s with heap := h, toks := tk })
    (done : ∀ h tk ov nx, Fr h₀ env.locals h (upm x ov m₀) → News h₀ env.locals h nx → PN w nx p pd l b o t1 t2 t3 (N' n) (J' n) → Q .next { s with heap := h, toks := tk }) :
    wpAny (model prog w) A (pyIter (.ref r)) (fun it s₂ => LoopAtV prog w A h₀ env x body Q E it s₂) E s := by
  have hsz : Builtin.Range.rangeSize 0 (n : Int) 1 = (n : Int) := by rw [rangeSize_one]; split <;> omega
  refine wpAny_pyIter_range hr (small_one (by decide) (by decide) (by omega) (by omega)) ?_
  have hI : (s.heap.push { cls := .type "range_iterator", data := .fields #[.int 0 0, .int ((n : Nat) : Int) 0, .int 1 0] }).objs.size = s.heap.objs.size + 1 := by simp [Heap.size_push]
  refine ⟨s.heap.objs.size, [s.heap.objs.size], [s.heap.objs.size], n, _, _, m₀, news, fun i m₁ nx => (∃ ov, m₁ = upm x ov m₀) ∧ PN w nx p pd l b o t1 t2 t3 (N' i) (J' i), rfl, Walks.range hh _ 0 1 n, ?_, ?_, ?_, (by show IsRangeIter _ _ _ _ _; rw [hsz]; simpa using Heap.get?_push_size _ rfl), F.push _, (fun p hp => ⟨Heap.get?_push_of_some _ (N p hp).1, (N p hp).2⟩), ⟨⟨m₀ x, (upm_self x m₀).symm⟩, hP⟩, ?_, ?_⟩
  · intro hm
    exact absurd F.ns.lt ((List.mem_singleton.mp hm) ▸ Nat.lt_irrefl _)
  · intro b hb
    rw [List.mem_singleton.mp hb]
    exact next_is_new F
  · intro p hp hI
    exact absurd (Heap.lt_size (N p hp).1) ((List.mem_singleton.mp hI) ▸ Nat.lt_irrefl _)
  · rintro i v m₁ nx s₁ own ⟨hh', tk', rfl⟩ hi _ ⟨⟨ov, rfl⟩, hP1⟩ hnw hown1 hown hown2 hst F₁ N₁
    have e : (fun y => if y = x then some v else upm x ov m₀ y) = upm x (some v) m₀ := upm_upm x (some v) ov m₀
    rw [e] at F₁
    have hcls : ∀ q ∈ own, q.2.cls = .type "range_iterator" := by
      intro q hq
      have h1 := hown q hq
      have h2 : q.1 = s.heap.objs.size := List.mem_singleton.mp (hown1 q hq)
      have h3 : hh'.get? s.heap.objs.size = some _ := hst
      rw [h2, h3] at h1
      rw [← Option.some.inj h1]
    refine wpAny_mono (turn i v hh' tk' (own ++ nx) hi (hP1.mono fun q hq => List.mem_append_right _ hq) F₁ N₁) (fun f s₂ hx => ?_) fun _ _ e => e
    obtain ⟨rfl, h', tk2, ov', news', rfl, F', N2, K, P⟩ := hx
    refine LoopStepV.next ⟨rfl, h', tk2, upm x ov' m₀, offs [s.heap.objs.size] news', rfl, F', ?_, ?_, ⟨ov', rfl⟩, ?_⟩
    · intro q hq
      rcases List.mem_append.mp hq with hq | hq
      · refine N2 q (K q (List.mem_append_left _ hq) ?_ ?_)
        · rw [hcls q hq]; decide
        · rw [hcls q hq]; decide
      · exact N2 q (mem_offs.mp hq).1
    · intro q hq hm
      exact (mem_offs.mp hq).2 hm
    · have hI0 : h₀.get? s.heap.objs.size = none := next_is_new F
      have hIown := hown2 s.heap.objs.size (List.mem_singleton.mpr rfl) hI0 _ hst
      have hIm := K _ (List.mem_append_left _ hIown) (by rw [hcls _ hIown]; decide) (by rw [hcls _ hIown]; decide)
      have hc := hcls _ hIown
      obtain ⟨nl, nb, no, bx, ln, os, hS, r⟩ := P
      have put : ∀ {a : Addr} {y : Obj}, (a, y) ∈ news' → y.cls ≠ .type "range_iterator" → (a, y) ∈ offs [s.heap.objs.size] news' := fun {a y} hy hne => mem_offs.mpr ⟨hy, fun hm => nne Obj.cls N2 hy hIm (fun e => hne (e.trans hc)) (List.mem_singleton.mp hm)⟩
      have nd : Value.type "dict" ≠ Value.type "range_iterator" := by decide
      have nl9 : Value.type "list" ≠ Value.type "range_iterator" := by decide
      exact ⟨nl, nb, no, bx, ln, os, ⟨put hS.hp (fun e => by cases e), put hS.hpd nd, put hS.hl nl9, put hS.hb nl9, put hS.ho nl9, hS.lb, hS.lo, hS.bo, fun r hr => ⟨put (hS.hbx r hr).1 (fun e => by cases e), put (hS.hbx r hr).2 nd⟩, hS.hbn, fun r hr => ⟨put (hS.hln r hr).1 (fun e => by cases e), put (hS.hln r hr).2 nd⟩⟩, r⟩
  · rintro h' tk m' nx F' N2 _ ⟨⟨ov, rfl⟩, hP'⟩
    exact done h' tk ov nx F' N2 hP'
end
theorem PN.start {w : World} {news : List (Addr × Obj)} {p pd l b o : Addr} {t1 t2 t3 : Tok} {nl nb no : Nat} (hp : (p, instObj 242 pd) ∈ news) (hpd : (pd, pdO w l b o t1 t2 t3) ∈ news) (hl : (l, listOf #[] nl) ∈ news) (hb : (b, listOf #[] nb) ∈ news) (ho : (o, listOf #[] no) ∈ news) (lb : @Ne Nat l b) (lo : @Ne Nat l o) (bo : @Ne Nat b o) : PN w news p pd l b o t1 t2 t3 0 0 :=
  ⟨nl, nb, no, [], [], [], ⟨hp, hpd, hl, hb, ho, lb, lo, bo, (fun _ h => nomatch h), List.nodup_nil, (fun _ h => nomatch h)⟩, rfl, rfl, rfl, (fun _ _ h => by simp at h), (fun _ h => nomatch h)⟩
section
variable {w : World} {news : List (Addr × Obj)} {p pd l b o : Addr} {t1 t2 t3 : Tok} {n j : Nat}
theorem PN.hp (P : PN w news p pd l b o t1 t2 t3 n j) : (p, instObj 242 pd) ∈ news := let ⟨_, _, _, _, _, _, hS, _⟩ := P; hS.hp
theorem PN.hpd (P : PN w news p pd l b o t1 t2 t3 n j) : (pd, pdO w l b o t1 t2 t3) ∈ news := let ⟨_, _, _, _, _, _, hS, _⟩ := P; hS.hpd
theorem PN.opn (P : PN w news p pd l b o t1 t2 t3 n j) : ∃ (no : Nat) (os : List Value), (o, listOf os.toArray no) ∈ news ∧ os.length = j := let ⟨_, _, no, _, _, os, hS, _, _, h, _⟩ := P; ⟨no, os, hS.ho, h⟩
theorem PN.lns (P : PN w news p pd l b o t1 t2 t3 n j) : ∃ (nl : Nat) (vs : List Value), (l, listOf vs.toArray nl) ∈ news ∧ vs.length = n := let ⟨nl, _, _, _, ln, _, hS, _, h, _⟩ := P; ⟨nl, ln.map LineR.v, hS.hl, by rw [List.length_map]; exact h⟩
end
theorem boolIdx : typeLookup (.type "bool") "__index__" = pure (some (.builtin "int.__index__")) := by rw [typeLookup_type, builtinLookup_eq_fast]; kernel_rfl
section
variable {prog : Program} {w : World} {A : Around} {E : Value → Shared → Prop} {s : Shared} {Q : Value → Shared → Prop}
theorem getBool {l : Addr} {items : Array Value} {b : Bool} {x : Value} (hl : s.heap.IsList l items) (hx : items[if b then 1 else 0]? = some x) (h : Q x s) : wpAny (model prog w) A (getItem (.ref l) (.bool b)) Q E s := by
  obtain ⟨o, ho, hc, ne, hd⟩ := id hl
  unfold getItem
  refine wpAny_holding ?_
  refine wpAny_bind (wpAny_sequenceKey hl.typeIs (by decide) ?_)
  refine wpAny_bind (wpAny_callSpecial?_slot (name := Str.ofString "__getitem__") hl.typeIs slot_list_getitem
    (wpAny_call_entry slot_list_getitem hl.typeIs entry_list_getitem ?_ (args_list_getitem _ _)))
  show wpAny _ _ (Builtin.List.listSubscript? (.bool b) >>= _) _ _ s
  have key : ∀ {α : Type} {k : Option Int → Sem α} {Q : α → Shared → Prop} {A : Around} {E : Value → Shared → Prop}, wpAny (model prog w) A (k (some (if b then 1 else 0))) Q E s → wpAny (model prog w) A (Builtin.List.listSubscript? (.bool b) >>= k) Q E s := by
    intro α k Q A E hk
    refine wpAny_bind ?_
    unfold Builtin.List.listSubscript?
    refine wpAny_bind (wpAny_specialOf (T := "bool") (PySem.typeIs_bool s b) boolIdx ?_)
    show wpAny (model prog w) _ (asIndex (.bool b) >>= _) _ E s
    refine wpAny_bind (wpAny_of_eq (a := if b then 1 else 0) (by cases b <;> rfl) ?_)
    show wpAny (model prog w) _ (if (!Builtin.List.listFitsIndex (if b then 1 else 0)) = true then _ else _) _ E s
    rw [if_neg (by cases b <;> decide)]
    exact wpAny_pure hk
  refine key ?_
  clear key
  cases b
  · have hx' : items[0]? = some x := hx
    show wpAny _ _ ((seqItemAt l 0 >>= fun r => pure (r.map (0, ·))) >>= _) _ _ s
    refine wpAny_bind (wpAny_bind (wpAny_seqItemAt ho hd (wpAny_pure ?_)))
    rw [hx']
    first
      | exact wpAny_bind (wpAny_pure (wpAny_pure ⟨x, rfl, wpAny_pure h⟩))
      | exact wpAny_pure ⟨x, rfl, wpAny_pure h⟩
  · have hx' : items[1]? = some x := hx
    show wpAny _ _ ((seqItemAt l 1 >>= fun r => pure (r.map (1, ·))) >>= _) _ _ s
    refine wpAny_bind (wpAny_bind (wpAny_seqItemAt ho hd (wpAny_pure ?_)))
    rw [hx']
    first
      | exact wpAny_bind (wpAny_pure (wpAny_pure ⟨x, rfl, wpAny_pure h⟩))
      | exact wpAny_pure ⟨x, rfl, wpAny_pure h⟩
theorem itemB {value slice : PySem.Expr} {h₀ : Heap} {L l : Addr} {news : List (Addr × Obj)} {x y v : Value} {n : Nat} {b : Bool} (N : News h₀ L s.heap news) (hm : (l, listOf [x, y].toArray n) ∈ news) (h : (b = true → Q y s) ∧ (b = false → Q x s))
    (hs : subscripted slice false (.ref l) (.bool b) = operate [.ref l, .bool b] (getItem (.ref l) (.bool b))) :
    wpAny (model prog w) A (subscriptTail value slice (.ref l) (.bool b)) Q E s := by
  have hl := newsList N hm
  cases b
  · exact tail_any hl.typeIs slot_list_getitem.lookup (getBool hl (x := x) rfl (h.2 rfl)) hs
  · exact tail_any hl.typeIs slot_list_getitem.lookup (getBool hl (x := y) rfl (h.1 rfl)) hs
end
theorem itemN {prog : Program} {w : World} {A : Around} {E : Value → Shared → Prop} {s : Shared} {Q : Value → Shared → Prop} {value slice : PySem.Expr} {h₀ : Heap} {L l : Addr} {news : List (Addr × Obj)} {x y : Value} {n k : Nat} {kvs : List (Str × Value)} (N : News h₀ L s.heap news) (hm : (l, listOf [x, y].toArray n) ∈ news) (hf : FlatPairs PyData.str kvs (counted k))
    (hs : subscripted slice false (.ref l) (.bool (decide (0 < (k : Int)))) = operate [.ref l, .bool (decide (0 < (k : Int)))] (getItem (.ref l) (.bool (decide (0 < (k : Int))))))
    (h1 : FlatPairs PyData.str kvs [(.str (Str.ofString "assume"), .int (k : Int))] → Q y s) (h0 : FlatPairs PyData.str kvs [] → Q x s) :
    wpAny (model prog w) A (subscriptTail value slice (.ref l) (.bool (decide (0 < (k : Int))))) Q E s := by
  refine itemB (v := .none) N hm ⟨fun hb => h1 ?_, fun hb => h0 ?_⟩ hs
  · have hk : k ≠ 0 := by
      intro e
      rw [e] at hb
      simp at hb
    simpa [counted, hk] using hf
  · have hk : k = 0 := by
      have := of_decide_eq_false hb
      omega
    simpa [counted, hk] using hf
end Mine
end
section
open PySem PySem.W PyProof.Rows
namespace Mine
open_top hd04 for PySem.Challenge.rw_ui0505_04
end Mine
end
section
open PySem PySem.W PyProof.Rows PyProof.V PySem.Spec
namespace Mine
local macro_rules | `(tactic| k_mem) => `(tactic| first | exact List.mem_cons_self | with_reducible assumption | (refine List.mem_cons_of_mem _ ?_; k_mem))
local macro_rules | `(tactic| k_all) => `(tactic| first | exact List.forall_mem_nil _ | with_reducible assumption | exact allLt_ne (by with_reducible assumption) | (refine' List.forall_mem_cons.mpr ⟨?a, ?b⟩; (case a => k_ne); (case b => k_all)))
local macro_rules | `(tactic| k_lt $h:ident) => `(tactic| (replace $h := allLt_of $h; (try simp only [AllLt, and_true] at $h:ident); repeat (with_reducible (rename _ ∧ _ => hh9); obtain ⟨_, _⟩ := hh9)))
local macro_rules | `(tactic| walk_at "pyIter ref") => `(tactic| k_extra "pyIter ref")
local macro_rules | `(tactic| walk_at "enter") => `(tactic| (refine' code_def ?k1 ?k2 ?k3 ?k4 ?k5 ?kA ?kF ?kK ?k6 ?k7 ?k8 ?k9 ?kB ?_ ?c2 ?c3 ?c4 ?c5; (case kA => exact rfl); (case kF => exact rfl); (case kK => first | exact rfl | assumption); (case k2 => k_asm); (case k1 => k_asm); (case k3 => k_asm); (case k4 => k_asm); (case k5 => k_asm); (case k6 => k_is); (case k7 => k_is); (case k8 => ktr_room); (case k9 => first | exact BindsTo.of_eq rfl | exact binds_K (by k_in) rfl (by k_is) rfl rfl rfl); (case c5 => decide); (case kB => exact locs rfl); (case c2 => exact rfl); (case c3 => exact rfl); (case c4 => exact rfl); k_whole; intro g' L' h' FG' F' N' B' X' T'; (try dsimp only); (try k_fold)))
theorem q_of {Q : Value → Shared → Prop} {v v' : Value} {s : Shared} (h : Q v s) (e : v = v') : Q v' s := e ▸ h
theorem open_ok (w : World) (p : Program) (loose : List Str) (mean : ExcName → Option Value) (mg mb : Str → Option Value) :
    ∀ (dp un : Nat) (gd : Option (List Code)) (cn : Str) (cs : Scope) (a : Addr) (ccd : Value) (cl : List (Str × Addr)) (outer : List Env) (A₀ : Around) (base h₀ : Heap) (L : Addr) (m : Str → Option Value) (news : List (Addr × Obj)) (s : Shared) (pr pd l b o : Addr) (t1 t2 t3 : Tok) (nl nb no : Nat) (bx : List BoxR) (ln : List LineR) (os : List Value) (Q E : Value → Shared → Prop),
      Below A₀ base outer h₀ → Fr h₀ L s.heap m → (hd04.heap_39 w.params).In h₀ → News h₀ L s.heap news → Top p loose mean mg mb h₀ → cs.kind = .function → dp + 20 < recursionLimit → un + 160 < cLine →
      PS w news pr pd l b o t1 t2 t3 nl nb no bx ln os → bx.length ≤ 100 → os.length ≤ 100 →
      (os = [] ∨ ∃ (os' : List Value) (i : Nat) (u : Tok) (r : BoxR), os = os' ++ [.int (i : Int) u] ∧ bx[i]? = some r ∧ i ≤ 100 ∧ (r.f == 0) = false) →
      (∀ h' tk' news' r u nb' no', Fr h₀ L h' m → News h₀ L h' news' → Kept news news' → PS w news' pr pd l b o t1 t2 t3 nl nb' no' (bx ++ [r]) ln (os ++ [.int (bx.length : Int) u]) → (r.f == 0) = true → ∀ u', Q (.int (bx.length : Int) u') { s with heap := h', toks := tk' }) →
      wpAny (model PySem.Challenge.rw_ui0505_04.row.prog w) (ktrTop dp un gd cn cs L a ccd cl outer) (call (.ref 177) [.ref pr, .none]) Q E s := by
  k_fill
  k_with_none
  k_with "steps" => repeat' (first | (k_unfold; (try dsimp only)) | (k_end; wrow_close) | walk1 | (dsimp only; walk1) | (leave1; walk_say "STEP leave1"; try dsimp only) | k_extra "mine")
  k_with "spliced" => first | refine args_cons ?_ | refine args_nil ⟨Fr.keep (by assumption) _ _ (by assumption), ?_⟩ | (refine args_nil ?_; try simp only [List.cons_append, List.nil_append])
  k_with "call builtin:len cons nil" => (k_here; (with_reducible show wpAny _ _ (call (Value.builtin "len") [Value.ref _]) _ _ _); k_dflt (refine' lenL (by k_asm) (by k_mem) (by first | (with_reducible assumption) | (simp only [List.length_append, List.length_map, List.length_cons, List.length_nil]; with_reducible rfl)) (by omega) ?_))
  k_with "call ref cons nil" => (k_here; k_dflt (refine' call_cls (by k_asm) (by k_asm) (by k_asm) (by k_is) (by k_is) (by k_is) ?_; k_whole; intro x' d' h' F' N' l1 l2; (try k_lt l1); (try k_lt2 l2); (try k_sweep); walk_at "enter"))
  k_with "call ref nil" => (k_here; k_dflt (refine' call_cls (by k_asm) (by k_asm) (by k_asm) (by k_is) (by k_is) (by k_is) ?_; k_whole; intro x' d' h' F' N' l1 l2; (try k_lt l1); (try k_lt2 l2); (try k_sweep); walk_at "enter"))
  k_with "call ref cons nil" => (k_here; (with_reducible show wpAny _ _ (call (Value.ref 62) _) _ _ _); k_dflt (refine wpAny_call ?_; walk_at "enter"))
  k_with "call builtin:list.append cons nil" => (k_here; (with_reducible show wpAny _ _ (call (Value.builtin "list.append") [Value.ref _, _]) _ _ _); k_dflt (refine' appendL (by k_asm) (by k_asm) (by k_upd) (by ((try simp only [List.length_append, List.length_map, List.length_cons, List.length_nil]); omega)) ?_; k_whole); intro h' F' N'; (try k_sweep))
  k_with "subscriptTail Attribute Name UnaryOp ref int" => (k_here; (with_reducible show wpAny _ _ (subscriptTail _ _ (Value.ref _) (Value.int _ _)) _ _ _); k_dflt (refine' itemLast (by k_asm) (by k_mem) ?_ (by with_unfolding_all rfl); k_whole))
  k_with "subscriptTail Attribute Name Name ref int" => (k_here; (with_reducible show wpAny _ _ (subscriptTail _ _ (Value.ref _) (Value.int _ _)) _ _ _); k_dflt (refine' itemL (by k_asm) (by with_reducible assumption) (by k_mem) (by with_reducible rfl) (by omega) ?_ (by with_unfolding_all rfl); k_whole))
  k_with "subscriptTail Attribute Name Subscript ref int" => (k_here; (with_reducible show wpAny _ _ (subscriptTail _ _ (Value.ref _) (Value.int _ _)) _ _ _); k_dflt (refine' itemL (by k_asm) (by with_reducible assumption) (by k_mem) (by with_reducible rfl) (by omega) ?_ (by with_unfolding_all rfl); k_whole))
  k_with "pyIter ref" => (k_here; (with_reducible show wpAny _ _ (pyIter _) (fun it s₂ => LoopAtV _ _ _ _ _ _ [_] _ _ it s₂) _ _); k_dflt (refine' read_boxes (by k_asm) (by k_asm) (by rfl) (by assumption) (by assumption) (by assumption) (by assumption) ?_ ?_); (all_goals first | (intro i' u' r' h' tk' rest' own' hi' hx' hr1' hr2' he' F' N'; (try k_sweep)) | (intro h' tk' ov' F' N'; (try k_sweep))))
  k_with "pyIter ref" => (k_here; (with_reducible show wpAny _ _ (pyIter _) (fun it s₂ => LoopAtV _ _ _ _ _ _ [_, _] _ _ it s₂) _ _); k_dflt (refine' store_boxes (by k_asm) (by k_asm) (by rfl) (by exact PS.lined (by assumption) (by assumption) (by assumption) (by assumption)) (by assumption) (by assumption) (by assumption) ?_ ?_); (all_goals first | (intro i' u' r' h' tk' rest' bx' hi' hx' n1' n2' n3' n4' off' F' N'; (try k_sweep)) | (intro h' tk' ov' nx' bx' F' N' hK' hS' hl' hf'; (try k_sweep))))
  k_with "exec For Name Name cons nil" => (k_here; (with_reducible show wpAny _ _ (exec (Stmt.For (PySem.Expr.Name _ _) _ _ [] _) _) _ _ _); (rename Fr _ _ _ _ => lF'); k_dflt (refine' For_invVF lF' (by exact rfl) (by exact rfl) ?_ (by (intro _; rfl)) (by passes_own)); k_whole)
  k_with "exec For Name Attribute cons nil" => (k_here; (with_reducible show wpAny _ _ (exec (Stmt.For (PySem.Expr.Name _ _) _ _ [] _) _) _ _ _); (rename Fr _ _ _ _ => lF'); k_dflt (refine' For_invVF lF' (by exact rfl) (by exact rfl) ?_ (by (intro _; rfl)) (by passes_own)); k_whole)
  k_with "exec For Name Call cons nil" => (k_here; (with_reducible show wpAny _ _ (exec (Stmt.For (PySem.Expr.Name _ _) _ _ [] _) _) _ _ _); (rename Fr _ _ _ _ => lF'); k_dflt (refine' For_invVF lF' (by exact rfl) (by exact rfl) ?_ (by (intro _; rfl)) (by passes_own)); k_whole)
  k_with "pyIter ref" => (k_here; (with_reducible show wpAny _ _ (pyIter (Value.ref 154)) _ _ _); k_dflt (refine' iter_empty (by rfl) (by k_asm) (by k_is) (by exact ⟨rfl, rfl⟩) (by k_asm) (by k_asm) ?_); intro h' tk' F' N'; (try k_sweep))
  k_with "mine" => ((with_reducible show SameEnd _ _ _ _ _ _ _ _ _); (rename (_ = _ ++ _) => he9); subst he9; k_dflt (refine' sameEnd (by k_asm) (by k_asm)))
  k_with "mine" => ((with_reducible show BoxEnd1 _ _ _ _ _ _ _ _ _ _); k_dflt (refine' boxEnd1 (by k_asm) (by k_asm) (by (simp only [beq_eq_false_iff_ne, ne_eq]; omega))))
  k_with "call type:list cons nil" => (k_here; (with_reducible show wpAny _ _ (call (Value.type "list") [Value.ref 154]) _ _ _); k_dflt (refine' listTop (by k_asm) (by k_is) (by exact ⟨rfl, rfl⟩) (by k_asm) (by k_asm) ?_); intro D' c' h' F' N' l1; (try k_lt l1); (try k_sweep))
  k_with "call type:tuple cons nil" => (k_here; (with_reducible show wpAny _ _ (call (Value.type "tuple") [Value.ref _]) _ _ _); k_dflt (refine' tupleL (by k_asm) (by k_asm) (by k_mem) (by omega) ?_); intro D' h' F' N' l1; (try k_lt l1); (try k_sweep))
  k_with "call builtin:list.pop cons nil" => (k_here; (with_reducible show wpAny _ _ (call (Value.builtin "list.pop") [Value.ref _]) _ _ _); k_dflt (refine' popL (by k_asm) (by k_asm) (by k_upd) (by omega) ?_; k_whole); intro h' F' N'; (try k_sweep))
  intro dp un gd cn cs a ccd cl outer A₀ base h₀ L m news s pr pd l b o t1 t2 t3 nl nb no bx ln os Q E B F X N T hk hd hu hS hbl hol hos hret
  have N1 := hS.front N
  have ap := hS.apart N
  have hbx := hS.bxs N
  have hln := hS.lns N
  have hbn := hS.hbn
  have hkp := hS.kept N
  obtain ⟨lb, lo, bo, pl, pb, po, dl, db, d0, al, ab, ao⟩ := id ap
  clear hS
  generalize hrest : offs [l, b, o] news = rest at N1 al ab ao ap hbx hln hkp
  clear N
  rcases hos with rfl | ⟨os', i, u, r, rfl, hi, hi1, hf⟩
  · refine wpAny_call ?_
    k_dflt (walk_at "enter")
    k_extra "steps"
    rename Fr h₀ L _ _ => F9
    rename News h₀ L _ _ => N9
    have e9 : ((bx.length + (0 + 1) : Nat) : Int) - 1 = (bx.length : Int) := by omega
    rw [e9] at N9 ⊢
    exact hret _ _ _ _ _ _ _ F9 N9 (hkp.trans (Kept.sub fun q hq => by simp only [List.mem_cons, hq, or_true])) (PS.opened hbx hln hbn ap (by assumption)) rfl _
  · have hr : r ∈ bx := List.mem_of_getElem? hi
    obtain ⟨hr1, hr2⟩ := hbx r hr
    simp only [List.length_append, List.length_cons, List.length_nil] at hol
    have hi2 : (bx.map BoxR.v)[i]? = some r.v := by rw [List.getElem?_map, hi]; rfl
    refine wpAny_call ?_
    k_dflt (walk_at "enter")
    k_extra "steps"
    rename Fr h₀ L _ _ => F9
    rename News h₀ L _ _ => N9
    have e9 : ((bx.length + (0 + 1) : Nat) : Int) - 1 = (bx.length : Int) := by omega
    rw [e9] at N9 ⊢
    exact hret _ _ _ _ _ _ _ F9 N9 (hkp.trans (Kept.sub fun q hq => by simp only [List.mem_cons, hq, or_true])) (PS.opened hbx hln hbn ap (by assumption)) rfl _
theorem add_ok (w : World) (p : Program) (loose : List Str) (mean : ExcName → Option Value) (mg mb : Str → Option Value) :
    ∀ (dp un : Nat) (gd : Option (List Code)) (cn : Str) (cs : Scope) (a : Addr) (ccd : Value) (cl : List (Str × Addr)) (outer : List Env) (A₀ : Around) (base h₀ : Heap) (L : Addr) (m : Str → Option Value) (news : List (Addr × Obj)) (s : Shared) (pr pd l b o : Addr) (t1 t2 t3 : Tok) (nl nb no : Nat) (bx : List BoxR) (ln : List LineR) (os : List Value) (fo : Value) (tr : Tok) (Q E : Value → Shared → Prop),
      Below A₀ base outer h₀ → Fr h₀ L s.heap m → (hd04.heap_39 w.params).In h₀ → News h₀ L s.heap news → Top p loose mean mg mb h₀ → cs.kind = .function → dp + 20 < recursionLimit → un + 160 < cLine →
      PS w news pr pd l b o t1 t2 t3 nl nb no bx ln os → bx.length ≤ 100 → ln.length ≤ 100 → os.length = bx.length → OsAll os →
      (∀ h' tk' news' nl' bx' r u, Fr h₀ L h' m → News h₀ L h' news' → Kept news news' → PS w news' pr pd l b o t1 t2 t3 nl' nb no bx' (ln ++ [r]) os → bx'.length = bx.length → (∀ r ∈ bx', (r.f == 0) = false) → Q (.int ((ln.length : Int) + 1) u) { s with heap := h', toks := tk' }) →
      wpAny (model PySem.Challenge.rw_ui0505_04.row.prog w) (ktrTop dp un gd cn cs L a ccd cl outer) (call (.ref 162) [.ref pr, fo, .str (Str.ofString "assume") tr]) Q E s := by
  k_fill
  skip
  intro dp un gd cn cs a ccd cl outer A₀ base h₀ L m news s pr pd l b o t1 t2 t3 nl nb no bx ln os fo tr Q E B F X N T hk hd hu hS hbl hll hol hos hret
  have N1 := hS.front N
  have ap := hS.apart N
  have hbx := hS.bxs N
  have hln := hS.lns N
  have hbn := hS.hbn
  have hkp := hS.kept N
  obtain ⟨lb, lo, bo, pl, pb, po, dl, db, d0, al, ab, ao⟩ := id ap
  clear hS
  generalize hrest : offs [l, b, o] news = rest at N1 al ab ao ap hbx hln hkp
  clear N
  refine wpAny_call ?_
  k_dflt (walk_at "enter")
  k_extra "steps"
  rename Fr h₀ L _ _ => F9
  rename News h₀ L _ _ => N9
  rename PS _ _ _ _ _ _ _ _ _ _ _ _ _ _ _ _ => S9
  have e9 : ((ln.length + (0 + 1) : Nat) : Int) = (ln.length : Int) + 1 := by omega
  rw [e9]
  rename Kept (_ :: _) _ => K9
  exact hret _ _ _ _ _ _ _ F9 N9 ((hkp.trans (Kept.sub fun q hq => by simp only [List.mem_cons, hq, or_true])).trans K9) S9 (by assumption) (by assumption)
theorem os_last {os : List Value} {bx : List BoxR} (hol : os.length = bx.length) (hos : OsAll os) (hbl : bx.length ≤ 50) (hf : ∀ r ∈ bx, (r.f == 0) = false) :
    os = [] ∨ ∃ (os' : List Value) (i : Nat) (u : Tok) (r : BoxR), os = os' ++ [.int (i : Int) u] ∧ bx[i]? = some r ∧ i ≤ 100 ∧ (r.f == 0) = false := by
  by_cases h : os = []
  · exact .inl h
  · refine .inr ?_
    have hpos : 0 < os.length := List.length_pos_iff.mpr h
    have hlast : os[os.length - 1]? = some (os.getLast h) := by rw [List.getLast_eq_getElem]; simp
    obtain ⟨u, hu⟩ := hos _ _ hlast
    have hi : os.length - 1 < bx.length := by omega
    refine ⟨os.dropLast, os.length - 1, u, bx[os.length - 1], ?_, by simp [hi], by omega, hf _ (List.getElem_mem _)⟩
    rw [← hu]
    exact (List.dropLast_concat_getLast h).symm
theorem osAll_app {os : List Value} {k : Nat} {u : Tok} (hos : OsAll os) (hk : os.length = k) : OsAll (os ++ [.int (k : Int) u]) := by
  intro i v hv
  by_cases h : i < os.length
  · rw [List.getElem?_append_left h] at hv
    exact hos i v hv
  · rw [List.getElem?_append_right (by omega)] at hv
    have : i - os.length = 0 := by
      by_cases h0 : i - os.length = 0
      · exact h0
      · rw [List.getElem?_eq_none (by simp; omega)] at hv; cases hv
    rw [this] at hv
    simp at hv
    refine ⟨u, ?_⟩
    rw [← hv]
    have : i = k := by omega
    rw [this]
theorem assume_ok (w : World) (p : Program) (loose : List Str) (mean : ExcName → Option Value) (mg mb : Str → Option Value) :
    ∀ (dp un : Nat) (gd : Option (List Code)) (cn : Str) (cs : Scope) (a : Addr) (ccd : Value) (cl : List (Str × Addr)) (outer : List Env) (A₀ : Around) (base h₀ : Heap) (L : Addr) (m : Str → Option Value) (news : List (Addr × Obj)) (s : Shared) (pr pd l b o : Addr) (t1 t2 t3 : Tok) (nl nb no : Nat) (bx : List BoxR) (ln : List LineR) (os : List Value) (Q E : Value → Shared → Prop),
      Below A₀ base outer h₀ → Fr h₀ L s.heap m → (hd04.heap_39 w.params).In h₀ → News h₀ L s.heap news → Top p loose mean mg mb h₀ → cs.kind = .function → dp + 60 < recursionLimit → un + 400 < cLine →
      PS w news pr pd l b o t1 t2 t3 nl nb no bx ln os → bx.length ≤ 50 → ln.length ≤ 50 → os.length = bx.length → OsAll os → (∀ r ∈ bx, (r.f == 0) = false) →
      (∀ h' tk' news' nl' nb' no' (bx' : List BoxR) (ln' : List LineR) (os' : List Value) v, Fr h₀ L h' m → News h₀ L h' news' → Kept news news' → PS w news' pr pd l b o t1 t2 t3 nl' nb' no' bx' ln' os' → bx'.length = bx.length + 1 → ln'.length = ln.length + 1 → os'.length = bx'.length → OsAll os' → (∀ r ∈ bx', (r.f == 0) = false) → Q v { s with heap := h', toks := tk' }) →
      wpAny (model PySem.Challenge.rw_ui0505_04.row.prog w) (ktrTop dp un gd cn cs L a ccd cl outer) (call (.ref 185) [.ref pr, .ref 40]) Q E s := by
  k_fill
  skip
  k_with "call ref cons nil" => (k_here; (with_reducible show wpAny _ _ (call (Value.ref 177) _) _ _ _); k_dflt (refine' open_ok _ _ _ _ _ _ _ _ _ _ _ _ _ _ _ _ _ _ _ _ _ _ _ _ _ _ _ _ _ _ _ _ _ _ _ _ _ _ (by k_asm) (by k_asm) (by k_asm) (by k_asm) (by k_asm) (by first | rfl | assumption) (by first | decide | omega | ktr_room) (by first | decide | omega | ktr_units) (by assumption) (by omega) (by omega) (by exact os_last (by assumption) (by assumption) (by assumption) (by assumption)) ?_; intro h' tk' news' r' u' nb' no' F' N' K' S' hf' u''; (have hp' := S'.hp); (have hpd' := S'.hpd); (try k_sweep); (try dsimp only)))
  k_with "call ref cons nil" => (k_here; (with_reducible show wpAny _ _ (call (Value.ref 162) _) _ _ _); k_dflt (refine' add_ok _ _ _ _ _ _ _ _ _ _ _ _ _ _ _ _ _ _ _ _ _ _ _ _ _ _ _ _ _ _ _ _ _ _ _ _ _ _ _ _ (by k_asm) (by k_asm) (by k_asm) (by k_asm) (by k_asm) (by first | rfl | assumption) (by first | decide | omega | ktr_room) (by first | decide | omega | ktr_units) (by assumption) (by (simp only [List.length_append, List.length_cons, List.length_nil]; omega)) (by omega) (by (simp only [List.length_append, List.length_cons, List.length_nil]; omega)) (by exact osAll_app (by assumption) (by assumption)) ?_; intro h' tk' news' nl' bx' r' u' F' N' K' S' hl' hf'; (try k_sweep); (try dsimp only)))
  intro dp un gd cn cs a ccd cl outer A₀ base h₀ L m news s pr pd l b o t1 t2 t3 nl nb no bx ln os Q E B F X N T hk hd hu hS hbl hll hol hos hf hret
  have hp := hS.hp
  have hpd := hS.hpd
  refine wpAny_call ?_
  k_dflt (walk_at "enter")
  k_extra "steps"
  rename Fr h₀ L _ _ => F9
  rename News h₀ L _ _ => N9
  rename PS _ _ _ _ _ _ _ _ _ _ _ _ _ _ _ _ => S9
  rename (List.length _ = List.length (_ ++ _)) => hl9
  rw [List.length_append] at hl9
  rename Kept news _ => K1
  rename Kept _ _ => K2
  exact hret _ _ _ _ _ _ _ _ _ _ F9 N9 (K1.trans K2) S9 (by simpa using hl9) (by simp) (by rw [hl9, List.length_append, hol]; rfl) (osAll_app hos hol) (by assumption)
theorem close_ok (w : World) (p : Program) (loose : List Str) (mean : ExcName → Option Value) (mg mb : Str → Option Value) :
    ∀ (dp un : Nat) (gd : Option (List Code)) (cn : Str) (cs : Scope) (a : Addr) (ccd : Value) (cl : List (Str × Addr)) (outer : List Env) (A₀ : Around) (base h₀ : Heap) (L : Addr) (m : Str → Option Value) (news : List (Addr × Obj)) (s : Shared) (pr pd l b o : Addr) (t1 t2 t3 : Tok) (nl nb no : Nat) (bx : List BoxR) (ln : List LineR) (os : List Value) (i : Nat) (u : Tok) (r : BoxR) (Q E : Value → Shared → Prop),
      Below A₀ base outer h₀ → Fr h₀ L s.heap m → (hd04.heap_39 w.params).In h₀ → News h₀ L s.heap news → Top p loose mean mg mb h₀ → cs.kind = .function → dp + 20 < recursionLimit → un + 160 < cLine →
      PS w news pr pd l b o t1 t2 t3 nl nb no bx ln (os ++ [.int (i : Int) u]) → os.length ≤ 100 → bx[i]? = some r → i ≤ 100 → (r.f == 0) = false →
      (∀ h' tk' news' no' v, Fr h₀ L h' m → News h₀ L h' news' → Kept news news' → PS w news' pr pd l b o t1 t2 t3 nl nb no' bx ln os → Q v { s with heap := h', toks := tk' }) →
      wpAny (model PySem.Challenge.rw_ui0505_04.row.prog w) (ktrTop dp un gd cn cs L a ccd cl outer) (call (.ref 192) [.ref pr]) Q E s := by
  k_fill
  skip
  intro dp un gd cn cs a ccd cl outer A₀ base h₀ L m news s pr pd l b o t1 t2 t3 nl nb no bx ln os i u r Q E B F X N T hk hd hu hS hol hi hi1 hf hret
  have N1 := hS.front N
  have ap := hS.apart N
  have hbx := hS.bxs N
  have hln := hS.lns N
  have hbn := hS.hbn
  have hkp := hS.kept N
  obtain ⟨lb, lo, bo, pl, pb, po, dl, db, d0, al, ab, ao⟩ := id ap
  clear hS
  generalize hrest : offs [l, b, o] news = rest at N1 al ab ao ap hbx hln hkp
  clear N
  have hr : r ∈ bx := List.mem_of_getElem? hi
  obtain ⟨hr1, hr2⟩ := hbx r hr
  have hi2 : (bx.map BoxR.v)[i]? = some r.v := by rw [List.getElem?_map, hi]; rfl
  have hne : ((((os.length + (0 + 1) : Nat) : Int)) == 0) = false := by rw [beq_eq_false_iff_ne]; omega
  refine wpAny_call ?_
  k_dflt (walk_at "enter")
  k_extra "steps"
  rename Fr h₀ L _ _ => F9
  rename News h₀ L _ _ => N9
  exact hret _ _ _ _ _ F9 N9 (hkp.trans (Kept.sub fun q hq => by simp only [List.mem_cons, hq, or_true])) (PS.plain (pre := [(_, _)]) hbx hln hbn ap)
theorem rules_ok (w : World) (p : Program) (loose : List Str) (mean : ExcName → Option Value) (mg mb : Str → Option Value) :
    ∀ (dp un : Nat) (gd : Option (List Code)) (cn : Str) (cs : Scope) (a : Addr) (ccd : Value) (cl : List (Str × Addr)) (outer : List Env) (A₀ : Around) (base h₀ : Heap) (L : Addr) (m : Str → Option Value) (news : List (Addr × Obj)) (s : Shared) (pr pd l b o : Addr) (t1 t2 t3 : Tok) (nl nb no : Nat) (bx : List BoxR) (ln : List LineR) (os : List Value) (Q E : Value → Shared → Prop),
      Below A₀ base outer h₀ → Fr h₀ L s.heap m → (hd04.heap_39 w.params).In h₀ → News h₀ L s.heap news → Top p loose mean mg mb h₀ → cs.kind = .function → dp + 20 < recursionLimit → un + 160 < cLine →
      PS w news pr pd l b o t1 t2 t3 nl nb no bx ln os → ln.length ≤ 100 →
      (∀ h' tk' d od kvs, Fr h₀ L h' m → News h₀ L h' ((d, od) :: news) → AllLt d news → (d == sysModules) = false → od.IsDictOf (PySem.strKind PySem.Challenge.rw_ui0505_04.row.prog w) kvs → FlatPairs PyData.str kvs (counted ln.length) → Q (.ref d) { s with heap := h', toks := tk' }) →
      wpAny (model PySem.Challenge.rw_ui0505_04.row.prog w) (ktrTop dp un gd cn cs L a ccd cl outer) (call (.ref 234) [.ref pr]) Q E s := by
  k_fill
  skip
  k_with "pyIter ref" => (k_here; (with_reducible show wpAny _ _ (pyIter _) (fun it s₂ => LoopAtV _ _ _ _ _ _ [Stmt.Assign _ _ _] _ _ it s₂) _ _); k_dflt (refine' rules_loop (by k_asm) (by k_asm) (by rfl) (by assumption) (by assumption) (by exact allLt_ne (by assumption)) (by assumption) (by assumption) ?_ ?_ ?_); (all_goals first | (intro r' h' tk' tl' o' kvs' i' hi' hr1' hr2' off' hd' hf' F' N'; (try k_sweep)) | (intro r' h' tk' tl' o' kvs' hr1' hr2' off' hd' hf' F' N'; (try k_sweep)) | (intro h' tk' ov' o' kvs' hd' hf' F' N'; (try k_sweep))))
  k_with "mine" => ((with_reducible show DEnd _ _ _ _ _ _ _ _ _ _ _ _); k_dflt (refine' dEnd (by k_asm) (by k_asm) (by assumption) (by assumption)))
  intro dp un gd cn cs a ccd cl outer A₀ base h₀ L m news s pr pd l b o t1 t2 t3 nl nb no bx ln os Q E B F X N T hk hd hu hS hll hret
  have hp := hS.hp
  have hpd := hS.hpd
  have hl := hS.hl
  have hln := hS.hln
  clear hS
  refine wpAny_call ?_
  k_dflt (walk_at "enter")
  k_extra "steps"
  rename Fr h₀ L _ _ => F9
  rename News h₀ L _ _ => N9
  exact hret _ _ _ _ _ F9 N9 (by assumption) (by assumption) (by assumption) (by assumption)
theorem os_split {os : List Value} {k : Nat} (hos : OsAll os) (hl : os.length = k + 1) : ∃ (os' : List Value) (u : Tok), os = os' ++ [.int (k : Int) u] ∧ os'.length = k ∧ OsAll os' := by
  have h : os ≠ [] := by intro e; rw [e] at hl; cases hl
  have hlast : os[k]? = some (os.getLast h) := by rw [List.getLast_eq_getElem]; simp [hl]
  obtain ⟨u, hu⟩ := hos _ _ hlast
  refine ⟨os.dropLast, u, ?_, by simp [hl], ?_⟩
  · rw [← hu]
    exact (List.dropLast_concat_getLast h).symm
  · intro i v hv
    have hi := (List.getElem?_eq_some_iff.mp hv).1
    rw [List.length_dropLast] at hi
    refine hos i v ?_
    rw [List.getElem?_dropLast, if_pos hi] at hv
    exact hv
theorem assumeN (w : World) (p : Program) (loose : List Str) (mean : ExcName → Option Value) (mg mb : Str → Option Value) :
    ∀ (dp un : Nat) (gd : Option (List Code)) (cn : Str) (cs : Scope) (a : Addr) (ccd : Value) (cl : List (Str × Addr)) (outer : List Env) (A₀ : Around) (base h₀ : Heap) (L : Addr) (m : Str → Option Value) (news : List (Addr × Obj)) (s : Shared) (pr pd l b o : Addr) (t1 t2 t3 : Tok) (n : Nat) (Q E : Value → Shared → Prop),
      Below A₀ base outer h₀ → Fr h₀ L s.heap m → (hd04.heap_39 w.params).In h₀ → News h₀ L s.heap news → Top p loose mean mg mb h₀ → cs.kind = .function → dp + 60 < recursionLimit → un + 400 < cLine →
      PN w news pr pd l b o t1 t2 t3 n n → n ≤ 40 →
      (∀ h' tk' news' v, Fr h₀ L h' m → News h₀ L h' news' → Kept news news' → PN w news' pr pd l b o t1 t2 t3 (n + 1) (n + 1) → Q v { s with heap := h', toks := tk' }) →
      wpAny (model PySem.Challenge.rw_ui0505_04.row.prog w) (ktrTop dp un gd cn cs L a ccd cl outer) (call (.ref 185) [.ref pr, .ref 40]) Q E s := by
  intro dp un gd cn cs a ccd cl outer A₀ base h₀ L m news s pr pd l b o t1 t2 t3 n Q E B F X N T hk hd hu hP hn hret
  obtain ⟨nl, nb, no, bx, ln, os, hS, h1, h2, h3, h4, h5⟩ := hP
  exact assume_ok w p loose mean mg mb dp un gd cn cs a ccd cl outer A₀ base h₀ L m news s pr pd l b o t1 t2 t3 nl nb no bx ln os Q E B F X N T hk hd hu hS (by omega) (by omega) (by omega) h4 h5
    fun h' tk' news' nl' nb' no' bx' ln' os' v F' N' K' S' e1 e2 e3 e4 e5 => hret h' tk' news' v F' N' K' ⟨nl', nb', no', bx', ln', os', S', by omega, by omega, by omega, e4, e5⟩
theorem closeN (w : World) (p : Program) (loose : List Str) (mean : ExcName → Option Value) (mg mb : Str → Option Value) :
    ∀ (dp un : Nat) (gd : Option (List Code)) (cn : Str) (cs : Scope) (a : Addr) (ccd : Value) (cl : List (Str × Addr)) (outer : List Env) (A₀ : Around) (base h₀ : Heap) (L : Addr) (m : Str → Option Value) (news : List (Addr × Obj)) (s : Shared) (pr pd l b o : Addr) (t1 t2 t3 : Tok) (n j : Nat) (Q E : Value → Shared → Prop),
      Below A₀ base outer h₀ → Fr h₀ L s.heap m → (hd04.heap_39 w.params).In h₀ → News h₀ L s.heap news → Top p loose mean mg mb h₀ → cs.kind = .function → dp + 60 < recursionLimit → un + 400 < cLine →
      PN w news pr pd l b o t1 t2 t3 n j → n ≤ 40 → 0 < j → j ≤ n →
      (∀ h' tk' news' v, Fr h₀ L h' m → News h₀ L h' news' → Kept news news' → PN w news' pr pd l b o t1 t2 t3 n (j - 1) → Q v { s with heap := h', toks := tk' }) →
      wpAny (model PySem.Challenge.rw_ui0505_04.row.prog w) (ktrTop dp un gd cn cs L a ccd cl outer) (call (.ref 192) [.ref pr]) Q E s := by
  intro dp un gd cn cs a ccd cl outer A₀ base h₀ L m news s pr pd l b o t1 t2 t3 n j Q E B F X N T hk hd hu hP hn hj0 hj1 hret
  obtain ⟨nl, nb, no, bx, ln, os, hS, h1, h2, h3, h4, h5⟩ := hP
  obtain ⟨k, rfl⟩ : ∃ k, j = k + 1 := ⟨j - 1, by omega⟩
  obtain ⟨os', u, rfl, e1, e2⟩ := os_split h4 h3
  have hjb : k < bx.length := by omega
  exact close_ok w p loose mean mg mb dp un gd cn cs a ccd cl outer A₀ base h₀ L m news s pr pd l b o t1 t2 t3 nl nb no bx ln os' k u bx[k] Q E B F X N T hk (by omega) (by omega) hS (by omega) (by simp [hjb]) (by omega) (h5 _ (List.getElem_mem _))
    fun h' tk' news' no' v F' N' K' S' => hret h' tk' news' v F' N' K' ⟨nl, nb, no', bx, ln, os', S', h1, h2, e1, e2, h5⟩
theorem rulesN (w : World) (p : Program) (loose : List Str) (mean : ExcName → Option Value) (mg mb : Str → Option Value) :
    ∀ (dp un : Nat) (gd : Option (List Code)) (cn : Str) (cs : Scope) (a : Addr) (ccd : Value) (cl : List (Str × Addr)) (outer : List Env) (A₀ : Around) (base h₀ : Heap) (L : Addr) (m : Str → Option Value) (news : List (Addr × Obj)) (s : Shared) (pr pd l b o : Addr) (t1 t2 t3 : Tok) (n j : Nat) (Q E : Value → Shared → Prop),
      Below A₀ base outer h₀ → Fr h₀ L s.heap m → (hd04.heap_39 w.params).In h₀ → News h₀ L s.heap news → Top p loose mean mg mb h₀ → cs.kind = .function → dp + 60 < recursionLimit → un + 400 < cLine →
      PN w news pr pd l b o t1 t2 t3 n j → n ≤ 40 →
      (∀ h' tk' d od kvs, Fr h₀ L h' m → News h₀ L h' ((d, od) :: news) → AllLt d news → (d == sysModules) = false → od.IsDictOf (PySem.strKind PySem.Challenge.rw_ui0505_04.row.prog w) kvs → FlatPairs PyData.str kvs (counted n) → Q (.ref d) { s with heap := h', toks := tk' }) →
      wpAny (model PySem.Challenge.rw_ui0505_04.row.prog w) (ktrTop dp un gd cn cs L a ccd cl outer) (call (.ref 234) [.ref pr]) Q E s := by
  intro dp un gd cn cs a ccd cl outer A₀ base h₀ L m news s pr pd l b o t1 t2 t3 n j Q E B F X N T hk hd hu hP hn hret
  obtain ⟨nl, nb, no, bx, ln, os, hS, h1, h2, h3, h4, h5⟩ := hP
  exact rules_ok w p loose mean mg mb dp un gd cn cs a ccd cl outer A₀ base h₀ L m news s pr pd l b o t1 t2 t3 nl nb no bx ln os Q E B F X N T hk (by omega) (by omega) hS (by omega)
    fun h' tk' d od kvs F' N' hl hs hd hf => hret h' tk' d od kvs F' N' hl hs hd (by rw [← h2]; exact hf)
theorem t : PySem.Challenge.rw_ui0505_04.Holds := hd04 (by
  skip
  k_with "binaryOp Mod int int" => (k_here; (with_reducible show wpAny _ _ (binaryOp _ (Value.int _ _) (Value.int 6 _)) _ _ _); (with_reducible refine' mod6 ?_); intro n' hn'; (try dsimp only))
  k_with "binaryOp Mod int int" => (k_here; (with_reducible show wpAny _ _ (binaryOp _ (Value.int _ _) (Value.int (_ + 1) _)) _ _ _); (with_reducible refine' modN ?_); intro n' hn'; (try dsimp only))
  k_with "pyIter ref" => (k_here; (with_reducible show wpAny _ _ (pyIter _) (fun it s₂ => LoopAtV _ _ _ _ _ _ [Stmt.Expr (PySem.Expr.Call _ [_] _ _) _] _ _ it s₂) _ _); k_dflt (refine' proof_loop (fun i => i) (fun i => i) (by assumption) (by k_asm) (by k_asm) (by rfl) (by omega) (by exact PN.start (by k_mem) (by k_mem) (by k_mem) (by k_mem) (by k_mem) (by (refine neN ?_; omega)) (by (refine neN ?_; omega)) (by (refine neN ?_; omega))) ?_ ?_); (all_goals first | (intro i' v' h' tk' nx' hi' P' F' N'; (have hp' := P'.hp); (have hpd' := P'.hpd); (try k_sweep)) | (intro h' tk' ov' nx' F' N' P'; (have hp' := P'.hp); (have hpd' := P'.hpd); (obtain ⟨no9, os9, ho9, hol9⟩ := P'.opn); (obtain ⟨nl9, vs9, hl9, hll9⟩ := P'.lns); (try k_sweep))))
  k_with "call type:range cons nil" => (k_here; (with_reducible show wpAny _ _ (call (Value.type "range") [Value.int _ _]) _ _ _); (rename Fr _ _ _ _ => F'); (rename News _ _ _ _ => N'); k_dflt (refine' range1_rows F' N' ?_); intro h' tk' t1' u1' v1' R' F' N' K'; (try k_sweep); (try dsimp only))
  k_with "call ref cons nil" => (k_here; (with_reducible show wpAny _ _ (call (Value.ref 185) _) _ _ _); k_dflt (refine' assumeN _ _ _ _ _ _ _ _ _ _ _ _ _ _ _ _ _ _ _ _ _ _ _ _ _ _ _ _ _ _ _ _ _ (by k_asm) (by k_asm) (by k_asm) (by k_asm) (by k_asm) (by first | rfl | assumption) (by first | decide | omega | ktr_room) (by first | decide | omega | ktr_units) (by assumption) (by omega) ?_; intro h' tk' news' v' F' N' K' P'; (try k_sweep); (try dsimp only)))
  k_with "call ref cons nil" => (k_here; (with_reducible show wpAny _ _ (call (Value.ref 192) _) _ _ _); k_dflt (refine' closeN _ _ _ _ _ _ _ _ _ _ _ _ _ _ _ _ _ _ _ _ _ _ _ _ _ _ _ _ _ _ _ _ _ _ (by k_asm) (by k_asm) (by k_asm) (by k_asm) (by k_asm) (by first | rfl | assumption) (by first | decide | omega | ktr_room) (by first | decide | omega | ktr_units) (by assumption) (by omega) (by omega) (by omega) ?_; intro h' tk' news' v' F' N' K' P'; (try k_sweep); (try dsimp only)))
  k_with "call ref cons nil" => (k_here; (with_reducible show wpAny _ _ (call (Value.ref 234) _) _ _ _); k_dflt (refine' rulesN _ _ _ _ _ _ _ _ _ _ _ _ _ _ _ _ _ _ _ _ _ _ _ _ _ _ _ _ _ _ _ _ _ _ (by k_asm) (by k_asm) (by k_asm) (by k_asm) (by k_asm) (by first | rfl | assumption) (by first | decide | omega | ktr_room) (by first | decide | omega | ktr_units) (by assumption) (by omega) ?_; intro h' tk' d' od' kvs' F' N' l1' s1' hd' hf'; (try k_sweep); (try dsimp only)))
  k_with "call ref nil" => (k_here; (with_reducible show wpAny _ _ (call (Value.ref 192) _) _ _ _); k_dflt (refine' closeN _ _ _ _ _ _ _ _ _ _ _ _ _ _ _ _ _ _ _ _ _ _ _ _ _ _ _ _ _ _ _ _ _ _ (by k_asm) (by k_asm) (by k_asm) (by k_asm) (by k_asm) (by first | rfl | assumption) (by first | decide | omega | ktr_room) (by first | decide | omega | ktr_units) (by assumption) (by omega) (by omega) (by omega) ?_; intro h' tk' news' v' F' N' K' P'; (try k_sweep); (try dsimp only)))
  k_with "call ref nil" => (k_here; (with_reducible show wpAny _ _ (call (Value.ref 234) _) _ _ _); k_dflt (refine' rulesN _ _ _ _ _ _ _ _ _ _ _ _ _ _ _ _ _ _ _ _ _ _ _ _ _ _ _ _ _ _ _ _ _ _ (by k_asm) (by k_asm) (by k_asm) (by k_asm) (by k_asm) (by first | rfl | assumption) (by first | decide | omega | ktr_room) (by first | decide | omega | ktr_units) (by assumption) (by omega) ?_; intro h' tk' d' od' kvs' F' N' l1' s1' hd' hf'; (try k_sweep); (try dsimp only)))
  k_with "pyIter ref" => (k_here; (with_reducible show wpAny _ _ (pyIter _) (fun it s₂ => LoopAtV _ _ _ _ _ _ [Stmt.Expr (PySem.Expr.Call _ [] _ _) _] _ _ it s₂) _ _); (rename (PN _ _ _ _ _ _ _ _ _ _ _ _) => P9); k_dflt (refine' proof_loop (fun _ => _) (fun i => _ - i) (by assumption) (by k_asm) (by k_asm) (by rfl) (by omega) P9 ?_ ?_); (all_goals first | (intro i' v' h' tk' nx' hi' P' F' N'; (have hp' := P'.hp); (have hpd' := P'.hpd); (try k_sweep)) | (intro h' tk' ov' nx' F' N' P'; (have hp' := P'.hp); (have hpd' := P'.hpd); (obtain ⟨no9, os9, ho9, hol9⟩ := P'.opn); (obtain ⟨nl9, vs9, hl9, hll9⟩ := P'.lns); (try k_sweep))))
  k_with "mine" => ((with_reducible show PEnd _ _ _ _ _ _ _ _ _ _ _ _ _ _ _ _ _ _ _); k_dflt (refine' pEnd (by k_asm) (by k_asm) (by assumption) (by assumption)))
  k_with "subscriptTail List cons Compare ref bool" => (k_here; (with_reducible show wpAny _ _ (subscriptTail _ _ (Value.ref _) (Value.bool _)) _ _ _); k_dflt (refine' itemN (by k_asm) (by k_mem) (by assumption) (by with_unfolding_all rfl) ?_ ?_); (all_goals intro hf'))
  k_with "subscriptTail Name Compare ref bool" => (k_here; (with_reducible show wpAny _ _ (subscriptTail _ _ (Value.ref _) (Value.bool _)) _ _ _); k_dflt (refine' itemN (by k_asm) (by k_mem) (by assumption) (by with_unfolding_all rfl) ?_ ?_); (all_goals intro hf'))
  k_with "steps" => repeat' (first | (k_unfold; (try dsimp only)) | k_extra "end" | walk1 | (dsimp only; walk1) | (leave1; walk_say "STEP leave1"; try dsimp only) | k_extra "mine")
  k_with "end" => (k_end; (try dsimp only); (with_reducible show GoodW _ _ _ _ _ (Except.ok (Flow.ret (Value.bool true))) _); (refine ⟨.inl ⟨.bool true, .bool true, [], rfl, fun _ => rfl, .bool _, ?_, fun _ => ⟨List.nodup_nil, fun _ h => nomatch h⟩⟩, Fr.keep (by k_asm), rfl, by assumption⟩); wrow_post)
  k_with "end" => (k_end; (try dsimp only); (with_reducible show GoodW _ _ _ _ _ (Except.ok (Flow.ret (Value.bool false))) _); exfalso; omega)
  w_strict (k_go0; (all_goals try k_fold))
  k_extra "steps")
end Mine
end
theorem PySem.Challenge.cw_ui0505_04_holds : PySem.Challenge.rw_ui0505_04.Holds :=
  Mine.t
