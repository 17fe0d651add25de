import PyProof.Rows.All
import Wide.All
import OpenK.AllK
import Wide.FinOn
import HandS.ForMost
import HandS.ForExc
import HandS.IsInst
import HandS.Deep
import HandS.Style
import KE.KExcIs
import HandS.HotCalls
import PySem.Challenge.RW_eitherbook_k12_whole_book
set_option Elab.async false
set_option linter.all false
set_option maxRecDepth 100000
set_option maxHeartbeats 4000000
namespace Px
open PySem L2
noncomputable section
abbrev PD := PyData
/-- what an evaluation comes to -/
inductive R (α : Type) where
  | ok (a : α)
  | exc (c : Str)
  | bad
def R.bind {α β : Type} : R α → (α → R β) → R β
  | .ok a, g => g a
  | .exc c, _ => .exc c
  | .bad, _ => .bad
/-- what a slot holds: data that stays, a list of the def's own, a dict of its own -/
inductive D where
  | val (d : PD)
  | own (ds : List PD)
  | dic (ks : List (Int × PD))
def D.isMut : D → Bool
  | .val _ => false
  | _ => true
abbrev Env := List (Option D)
def getE : Env → Nat → Option D
  | [], _ => none
  | x :: _, 0 => x
  | _ :: r, n + 1 => getE r n
def setE : Env → Nat → Option D → Env
  | [], _, _ => []
  | _ :: r, 0, d => d :: r
  | x :: r, n + 1, d => x :: setE r n d
theorem getE_set_same : ∀ (L : Env) (i : Nat) (d d' : D), getE (setE L i (some d)) i = some d' → d' = d
  | [], i, d, d', h => by cases i <;> cases h
  | x :: r, 0, d, d', h => by
    have e : some d = some d' := h
    exact (Option.some.inj e).symm
  | x :: r, i + 1, d, d', h => getE_set_same r i d d' h
theorem getE_set_none : ∀ (L : Env) (i : Nat), getE (setE L i none) i = none
  | [], i => by cases i <;> rfl
  | x :: r, 0 => rfl
  | x :: r, i + 1 => getE_set_none r i
theorem getE_set_ne : ∀ (L : Env) (i j : Nat) (d : Option D), j ≠ i → getE (setE L i d) j = getE L j
  | [], i, j, d, h => by cases i <;> rfl
  | x :: r, 0, 0, d, h => absurd rfl h
  | x :: r, 0, j + 1, d, h => rfl
  | x :: r, i + 1, 0, d, h => rfl
  | x :: r, i + 1, j + 1, d, h => getE_set_ne r i j d fun e => h (by rw [e])
theorem getE_len : ∀ {L : Env} {i : Nat} {d : D}, getE L i = some d → i < L.length
  | [], i, d, h => by cases i <;> cases h
  | x :: r, 0, d, h => Nat.zero_lt_succ _
  | x :: r, i + 1, d, h => Nat.succ_lt_succ (getE_len (L := r) h)
theorem setE_len : ∀ (L : Env) (i : Nat) (d : Option D), (setE L i d).length = L.length
  | [], i, d => by cases i <;> rfl
  | x :: r, 0, d => rfl
  | x :: r, i + 1, d => by
    show _ + 1 = _ + 1
    rw [setE_len r i d]
/-- what a statement comes to -/
inductive Out where
  | next (L : Env)
  | ret (d : D)
  | brk (L : Env)
  | ct (L : Env)
  | exc (c : Str)
  | bad
/-- the script, handed in from outside: read by place and by length alone -/
abbrev scr (ns : List Int) : PD := .dict [(.list (ns.map PyData.int), .none)]
/-- a Book: its field many, the statements that it holds -/
abbrev bkD (n : Int) (ds : List PD) : PD := .dict [(.int n, .list ds)]
mutual
/-- as the layer's data, every list and tuple tracked -/
inductive Dq (K : PySem.W.Frag) (H : Hp) : V → PyData → Prop
  | non : Dq K H .non .none
  | bl (b : Bool) : Dq K H (.bl b) (.bool b)
  | int (i : Int) : Dq K H (.int i) (.int i)
  | str (x : Str) : Dq K H (.str x) (.str x)
  | lst {a : Addr} {xs : List V} {ds : List PyData} : H a = some (.lst xs) → DqAll K H xs ds → Dq K H (.ref a) (.list ds)
  | tup {a : Addr} {xs : List V} {ds : List PyData} : H a = some (.tup xs) → DqAll K H xs ds → Dq K H (.ref a) (.tuple ds)
  | scr {a : Addr} {ns : List Int} : SqL K H a (ns.map V.int) → Dq K H (.ref a) (scr ns)
  | book {a C dx h : Addr} {n : Int} {xs : List V} {ds : List PyData} : PySem.W.nsIn K mainGlobals "Book" = some (some (.ref C)) → H a = some (.ins C dx [("many", .int n), ("held", .ref h)]) → H h = some (.lst xs) → DqAll K H xs ds → Dq K H (.ref a) (bkD n ds)
inductive DqAll (K : PySem.W.Frag) (H : Hp) : List V → List PyData → Prop
  | nil : DqAll K H [] []
  | cons {v : V} {vs : List V} {d : PyData} {ds : List PyData} : Dq K H v d → DqAll K H vs ds → DqAll K H (v :: vs) (d :: ds)
end
section
variable {K : PySem.W.Frag} {G G2 H H2 : Hp}
theorem sqL_mono {a : Addr} {xs : List V} (e : Same G G2) (h : SqL K G a xs) : SqL K G2 a xs := e.seq h
theorem sqT_mono {a : Addr} {xs : List V} (e : Same G G2) (h : SqT K G a xs) : SqT K G2 a xs := by
  rcases h with (h | ⟨o, h⟩) | h
  · exact .inl (.inl (e _ _ h))
  · exact .inl (.inr ⟨o, e _ _ h⟩)
  · exact .inr h
mutual
theorem dp_mono (e : Same G G2) : ∀ (d : PD) (v : V), Dq K G v d → Dq K G2 v d
  | .none, _, h => by cases h; exact .non
  | .bool _, _, h => by cases h; exact .bl _
  | .int _, _, h => by cases h; exact .int _
  | .str _, _, h => by cases h; exact .str _
  | .list ds, _, h => by
    cases h with
    | lst q a => exact .lst (e _ _ q) (dpAll_mono e ds _ a)
  | .tuple ds, _, h => by
    cases h with
    | tup q a => exact .tup (e _ _ q) (dpAll_mono e ds _ a)
  | .dict [(.int n, .list ds)], _, h => by
    cases h with
    | book c q l a => exact .book c (e _ _ q) (e _ _ l) (dpAll_mono e ds _ a)
  | .dict [(.list ns, .none)], _, h => by
    cases h with
    | scr q => exact .scr (sqL_mono e q)
  | .dict _, _, h => by
    cases h with
    | scr q => exact .scr (sqL_mono e q)
    | book c q l a => exact .book c (e _ _ q) (e _ _ l) (dpAll_mono e _ _ a)
theorem dpAll_mono (e : Same G G2) : ∀ (ds : List PD) (vs : List V), DqAll K G vs ds → DqAll K G2 vs ds
  | [], _, h => by cases h; exact .nil
  | d :: ds, _, h => by
    cases h with
    | cons a b => exact .cons (dp_mono e d _ a) (dpAll_mono e ds _ b)
end
mutual
/-- the layer's own data, the script left out -/
theorem dq_dp0 : ∀ (d : PD) (v : V), PyData.canLay0 d = true → Dq K G v d → Dp K G v d
  | .none, _, _, h => by cases h; exact .non
  | .bool _, _, _, h => by cases h; exact .bl _
  | .int _, _, _, h => by cases h; exact .int _
  | .str _, _, _, h => by cases h; exact .str _
  | .list ds, _, s, h => by
    cases h with
    | lst q a => exact .lst (SqL.of q) (dqAll_dp ds _ (by
        unfold PyData.canLay0 at s
        exact s) a)
  | .tuple ds, _, s, h => by
    cases h with
    | tup q a => exact .tup (SqT.of q) (dqAll_dp ds _ (by
        unfold PyData.canLay0 at s
        exact s) a)
  | .dict _, _, s, h => by
    unfold PyData.canLay0 at s
    cases s
theorem dqAll_dp : ∀ (ds : List PD) (vs : List V), PyData.canLayAll0 ds = true → DqAll K G vs ds → DpAll K G vs ds
  | [], _, _, h => by cases h; exact .nil
  | d :: ds, _, s, h => by
    unfold PyData.canLayAll0 at s
    cases h with
    | cons a b => exact .cons (dq_dp0 d _ (Bool.and_eq_true_iff.mp s).1 a) (dqAll_dp ds _ (Bool.and_eq_true_iff.mp s).2 b)
end
theorem dq_dp (d : PD) (v : V) (s : SeqAt.shaped d = true) (h : Dq K G v d) : Dp K G v d := dq_dp0 d v (SeqAt.canLay_of_shaped s) h
theorem dpAll_len : ∀ {ds : List PD} {vs : List V}, DqAll K G vs ds → vs.length = ds.length
  | [], _, h => by cases h; rfl
  | d :: ds, _, h => by
    cases h with
    | cons a b =>
      show _ + 1 = _ + 1
      rw [dpAll_len b]
theorem dpAll_get : ∀ {ds : List PD} {vs : List V} {i : Nat} {d : PD}, DqAll K G vs ds → ds[i]? = some d → ∃ v, vs[i]? = some v ∧ Dq K G v d
  | [], _, _, _, _, h => by simp at h
  | _ :: _, _, 0, d, h, e => by
    cases h with
    | cons a b =>
      have e' : _ = d := Option.some.inj e
      subst e'
      exact ⟨_, rfl, a⟩
  | _ :: ds, _, i + 1, d, h, e => by
    cases h with
    | cons a b => exact dpAll_get (ds := ds) (i := i) b e
theorem dpAll_get' : ∀ {ds : List PD} {vs : List V} {i : Nat} {v : V}, DqAll K G vs ds → vs[i]? = some v → ∃ d, ds[i]? = some d ∧ Dq K G v d
  | [], _, _, _, h, e => by cases h; simp at e
  | _ :: _, _, 0, v, h, e => by
    cases h with
    | cons a b =>
      have e' : _ = v := Option.some.inj e
      subst e'
      exact ⟨_, rfl, a⟩
  | _ :: ds, _, i + 1, v, h, e => by
    cases h with
    | cons a b => exact dpAll_get' (ds := ds) (i := i) b e
theorem dpAll_app : ∀ {ds es : List PD} {vs ws : List V}, DqAll K G vs ds → DqAll K G ws es → DqAll K G (vs ++ ws) (ds ++ es)
  | [], _, _, _, h, k => by cases h; exact k
  | _ :: _, _, _, _, h, k => by
    cases h with
    | cons a b => exact .cons a (dpAll_app b k)
theorem dpAll_drop : ∀ {ds : List PD} {vs : List V} (n : Nat), DqAll K G vs ds → DqAll K G (vs.drop n) (ds.drop n)
  | _, _, 0, h => h
  | [], _, n + 1, h => by cases h; exact .nil
  | _ :: _, _, n + 1, h => by
    cases h with
    | cons a b => exact dpAll_drop n b
theorem dpAll_take : ∀ {ds : List PD} {vs : List V} (n : Nat), DqAll K G vs ds → DqAll K G (vs.take n) (ds.take n)
  | _, _, 0, h => .nil
  | [], _, n + 1, h => by cases h; exact .nil
  | _ :: _, _, n + 1, h => by
    cases h with
    | cons a b => exact .cons a (dpAll_take n b)
theorem dpAll_set {d : PD} {v : V} (hv : Dq K G v d) : ∀ {ds : List PD} {vs : List V} (n : Nat), DqAll K G vs ds → DqAll K G (vs.set n v) (ds.set n d)
  | [], _, n, h => by cases h; exact .nil
  | _ :: _, _, 0, h => by
    cases h with
    | cons a b => exact .cons hv b
  | _ :: _, _, n + 1, h => by
    cases h with
    | cons a b => exact .cons a (dpAll_set hv n b)
theorem dpAll_rep {ds : List PD} {vs : List V} (h : DqAll K G vs ds) : ∀ (n : Nat), DqAll K G (List.replicate n vs).flatten (List.replicate n ds).flatten
  | 0 => .nil
  | n + 1 => by
    rw [List.replicate_succ, List.replicate_succ, List.flatten_cons, List.flatten_cons]
    exact dpAll_app h (dpAll_rep h n)
theorem dpAll_dropLast {ds : List PD} {vs : List V} (h : DqAll K G vs ds) : DqAll K G vs.dropLast ds.dropLast := by
  rw [List.dropLast_eq_take, List.dropLast_eq_take, dpAll_len h]
  exact dpAll_take _ h
end
theorem same_new {H : Hp} {p : Addr} {o : HO} (h : H p = none) : Same H (upd H p o) := fun b u e => by
  rw [upd_ne (ne_of_none e h)]
  exact e
/-- what G does not know may change -/
theorem same_mut {G H : Hp} {p : Addr} {o : HO} (e : Same G H) (h : G p = none) : Same G (upd H p o) := fun b u q => by
  rw [upd_ne (ne_of_none q h)]
  exact e b u q
theorem same_none {H : Hp} : Same (fun _ => none) H := fun _ _ h => by cases h
def KvOk (K : PySem.W.Frag) (G : Hp) : List (Key × V) → List (Int × PD) → Prop := Paired fun p q => p.1 = .inl q.1 ∧ Dq K G p.2 q.2
theorem kv_mono {K : PySem.W.Frag} {G G2 : Hp} (e : Same G G2) : ∀ {ks : List (Int × PD)} {kvs : List (Key × V)}, KvOk K G kvs ks → KvOk K G2 kvs ks
  | _, _, .nil => .nil
  | _, _, .cons r t => .cons ⟨r.1, dp_mono e _ _ r.2⟩ (kv_mono e t)
def SlotOk (K : PySem.W.Frag) (M G : Hp) (s : Option (Option V)) : D → Prop
  | .val d => ∃ x, s = some (some x) ∧ Dq K G x d
  | .own ds => ∃ p xs, s = some (some (.ref p)) ∧ M p = some (.lst xs) ∧ DqAll K G xs ds
  | .dic ks => ∃ p kvs, s = some (some (.ref p)) ∧ M p = some (.dK kvs) ∧ KvOk K G kvs ks
/-- F: what is not ours; M: the def's own lists and dicts; G: what stays -/
structure LR (K : PySem.W.Frag) (F M G H : Hp) (σ : St) (L : Env) : Prop where
  f : Same F H
  m : Same M H
  g : Same G H
  fm : ∀ a o, F a = some o → M a = none
  fg : ∀ a o, F a = some o → G a = none
  mg : ∀ a o, M a = some o → G a = none
  slot : ∀ i d, getE L i = some d → SlotOk K M G σ[i]? d
  len : L.length = σ.length
  inj : ∀ i j a di dj, getE L i = some di → getE L j = some dj → di.isMut = true → dj.isMut = true → σ[i]? = some (some (.ref a)) → σ[j]? = some (some (.ref a)) → i = j
theorem slot_mono {K : PySem.W.Frag} {M M2 G G2 : Hp} {s : Option (Option V)} (eM : Same M M2) (eG : Same G G2) : ∀ {d : D}, SlotOk K M G s d → SlotOk K M2 G2 s d
  | .val _, ⟨x, e, h⟩ => ⟨x, e, dp_mono eG _ _ h⟩
  | .own _, ⟨p, xs, e, h, a⟩ => ⟨p, xs, e, eM _ _ h, dpAll_mono eG _ _ a⟩
  | .dic _, ⟨p, kvs, e, h, a⟩ => ⟨p, kvs, e, eM _ _ h, kv_mono eG a⟩
section
variable {K : PySem.W.Frag} {F M G H G2 H2 : Hp} {σ : St} {L : Env}
theorem LR.mono (h : LR K F M G H σ L) (eG : Same G G2) (g2 : Same G2 H2) (f2 : Same F H2) (m2 : Same M H2) (fg2 : ∀ a o, F a = some o → G2 a = none) (mg2 : ∀ a o, M a = some o → G2 a = none) : LR K F M G2 H2 σ L :=
  ⟨f2, m2, g2, h.fm, fg2, mg2, fun i d e => slot_mono (Same.refl M) eG (h.slot i d e), h.len, h.inj⟩
/-- a new object that stays -/
theorem LR.new (h : LR K F M G H σ L) {p : Addr} {o : HO} (np : H p = none) : LR K F M (upd G p o) (upd H p o) σ L ∧ Same G (upd G p o) ∧ Same H (upd H p o) := by
  have gp : G p = none := h.g.free np
  have fp : F p = none := h.f.free np
  have mp : M p = none := h.m.free np
  refine ⟨h.mono (same_new gp) (fun b u e => ?_) (same_mut h.f fp) (same_mut h.m mp) (fun a u e => ?_) (fun a u e => ?_), same_new gp, same_new np⟩
  · by_cases hb : b = p
    · subst hb
      rw [upd_same] at e ⊢
      exact e
    · rw [upd_ne hb] at e ⊢
      exact h.g _ _ e
  · rw [upd_ne (ne_of_none e fp)]
    exact h.fg _ _ e
  · rw [upd_ne (ne_of_none e mp)]
    exact h.mg _ _ e
/-- a new object that is the def's own, not yet in a slot -/
theorem LR.newM (h : LR K F M G H σ L) {p : Addr} {o : HO} (np : H p = none) : LR K F M G (upd H p o) σ L ∧ Same H (upd H p o) ∧ G p = none ∧ F p = none ∧ M p = none := by
  have gp : G p = none := h.g.free np
  have fp : F p = none := h.f.free np
  have mp : M p = none := h.m.free np
  exact ⟨h.mono (Same.refl G) (same_mut h.g gp) (same_mut h.f fp) (same_mut h.m mp) h.fg h.mg, same_new np, gp, fp, mp⟩
/-- what is the def's own and in no slot may come to stay -/
theorem LR.keep (h : LR K F M G H σ L) {p : Addr} {o : HO} (hp : H p = some o) (gp : G p = none) (fp : F p = none) (mp : M p = none) : LR K F M (upd G p o) H σ L ∧ Same G (upd G p o) := by
  refine ⟨h.mono (same_new gp) (fun b u e => ?_) h.f h.m (fun a u e => ?_) (fun a u e => ?_), same_new gp⟩
  · by_cases hb : b = p
    · subst hb
      rw [upd_same] at e
      rw [hp]
      exact e
    · rw [upd_ne hb] at e
      exact h.g _ _ e
  · rw [upd_ne (ne_of_none e fp)]
    exact h.fg _ _ e
  · rw [upd_ne (ne_of_none e mp)]
    exact h.mg _ _ e
theorem st_get_set {σ : St} {i j : Nat} {v : Option V} (h : j ≠ i) : (σ.set i v)[j]? = σ[j]? := by
  rw [List.getElem?_set_ne (fun e => h e.symm)]
/-- a slot is forgotten -/
theorem LR.wipe (h : LR K F M G H σ L) (i : Nat) (v : Option V) : LR K F M G H (σ.set i v) (setE L i none) := by
  have ne : ∀ {j d}, getE (setE L i none) j = some d → j ≠ i ∧ getE L j = some d := fun {j d} e => by
    by_cases hj : j = i
    · subst hj
      rw [getE_set_none] at e
      cases e
    · rw [getE_set_ne _ _ _ _ hj] at e
      exact ⟨hj, e⟩
  refine ⟨h.f, h.m, h.g, h.fm, h.fg, h.mg, fun j d e => ?_, by rw [setE_len, List.length_set]; exact h.len, fun j k a dj dk e1 e2 m1 m2 s1 s2 => ?_⟩
  · obtain ⟨hj, e'⟩ := ne e
    rw [st_get_set hj]
    exact h.slot j d e'
  · obtain ⟨hj, e1'⟩ := ne e1
    obtain ⟨hk, e2'⟩ := ne e2
    rw [st_get_set hj] at s1
    rw [st_get_set hk] at s2
    exact h.inj j k a dj dk e1' e2' m1 m2 s1 s2
theorem LR.setVal (h : LR K F M G H σ L) {i : Nat} {v : V} {d : PD} (hv : Dq K G v d) : LR K F M G H (σ.set i (some v)) (setE L i (some (.val d))) := by
  refine ⟨h.f, h.m, h.g, h.fm, h.fg, h.mg, fun j dj e => ?_, by rw [setE_len, List.length_set]; exact h.len, fun j k a dj dk e1 e2 m1 m2 s1 s2 => ?_⟩
  · by_cases hj : j = i
    · subst hj
      have lt : j < σ.length := by
        have := getE_len e
        rw [setE_len, h.len] at this
        exact this
      have ed := getE_set_same _ _ _ _ e
      subst ed
      exact ⟨v, List.getElem?_set_self lt, hv⟩
    · rw [getE_set_ne _ _ _ _ hj] at e
      rw [st_get_set hj]
      exact h.slot j dj e
  · by_cases hj : j = i
    · subst hj
      have ed := getE_set_same _ _ _ _ e1
      subst ed
      cases m1
    · by_cases hk : k = i
      · subst hk
        have ed := getE_set_same _ _ _ _ e2
        subst ed
        cases m2
      · rw [getE_set_ne _ _ _ _ hj] at e1
        rw [getE_set_ne _ _ _ _ hk] at e2
        rw [st_get_set hj] at s1
        rw [st_get_set hk] at s2
        exact h.inj j k a dj dk e1 e2 m1 m2 s1 s2
end
/-- a value that a slot may come to hold -/
def DRes (K : PySem.W.Frag) (F M G H : Hp) (v : V) : D → Prop
  | .val d => Dq K G v d
  | .own ds => ∃ p xs, v = .ref p ∧ G p = none ∧ F p = none ∧ M p = none ∧ H p = some (.lst xs) ∧ DqAll K G xs ds
  | .dic ks => ∃ p kvs, v = .ref p ∧ G p = none ∧ F p = none ∧ M p = none ∧ H p = some (.dK kvs) ∧ KvOk K G kvs ks
section
variable {K : PySem.W.Frag} {F M G H G2 H2 : Hp} {σ : St} {L : Env}
theorem LR.setOwn (h : LR K F M G H σ L) {i : Nat} {p : Addr} {o : HO} {d : D} (hm : d.isMut = true) (gp : G p = none) (fp : F p = none) (mp : M p = none) (hp : H p = some o)
    (ok : SlotOk K (upd M p o) G (some (some (.ref p))) d) : LR K F (upd M p o) G H (σ.set i (some (.ref p))) (setE L i (some d)) := by
  have mm : Same M (upd M p o) := same_new mp
  have old : ∀ {j dj a}, j ≠ i → getE L j = some dj → dj.isMut = true → σ[j]? = some (some (.ref a)) → a ≠ p := fun {j dj a} hj e m s => by
    have q := h.slot j dj e
    cases dj with
    | val _ => cases m
    | own ds =>
      obtain ⟨p', xs, e1, e2, _⟩ := q
      rw [s] at e1
      cases e1
      exact ne_of_none e2 mp
    | dic ks =>
      obtain ⟨p', xs, e1, e2, _⟩ := q
      rw [s] at e1
      cases e1
      exact ne_of_none e2 mp
  refine ⟨h.f, fun b u e => ?_, h.g, fun a u e => ?_, h.fg, fun a u e => ?_, fun j dj e => ?_, by rw [setE_len, List.length_set]; exact h.len, fun j k a dj dk e1 e2 m1 m2 s1 s2 => ?_⟩
  · by_cases hb : b = p
    · subst hb
      rw [upd_same] at e
      rw [hp]
      exact e
    · rw [upd_ne hb] at e
      exact h.m _ _ e
  · rw [upd_ne (ne_of_none e fp)]
    exact h.fm _ _ e
  · by_cases hb : a = p
    · subst hb
      exact gp
    · rw [upd_ne hb] at e
      exact h.mg _ _ e
  · by_cases hj : j = i
    · subst hj
      have lt : j < σ.length := by
        have := getE_len e
        rw [setE_len, h.len] at this
        exact this
      have ed := getE_set_same _ _ _ _ e
      subst ed
      rw [List.getElem?_set_self lt]
      exact ok
    · rw [getE_set_ne _ _ _ _ hj] at e
      rw [st_get_set hj]
      exact slot_mono mm (Same.refl G) (h.slot j dj e)
  · by_cases hj : j = i
    · by_cases hk : k = i
      · rw [hj, hk]
      · subst hj
        have lt : j < σ.length := by
          have := getE_len e1
          rw [setE_len, h.len] at this
          exact this
        rw [List.getElem?_set_self lt] at s1
        cases s1
        rw [getE_set_ne _ _ _ _ hk] at e2
        rw [st_get_set hk] at s2
        exact absurd rfl (old hk e2 m2 s2)
    · by_cases hk : k = i
      · subst hk
        have lt : k < σ.length := by
          have := getE_len e2
          rw [setE_len, h.len] at this
          exact this
        rw [List.getElem?_set_self lt] at s2
        cases s2
        rw [getE_set_ne _ _ _ _ hj] at e1
        rw [st_get_set hj] at s1
        exact absurd rfl (old hj e1 m1 s1)
      · rw [getE_set_ne _ _ _ _ hj] at e1
        rw [getE_set_ne _ _ _ _ hk] at e2
        rw [st_get_set hj] at s1
        rw [st_get_set hk] at s2
        exact h.inj j k a dj dk e1 e2 m1 m2 s1 s2
theorem LR.setD (h : LR K F M G H σ L) {i : Nat} {v : V} : ∀ {d : D}, DRes K F M G H v d → ∃ M', LR K F M' G H (σ.set i (some v)) (setE L i (some d))
  | .val d, hv => ⟨M, h.setVal hv⟩
  | .own ds, ⟨p, xs, ev, gp, fp, mp, hp, ha⟩ => by
    subst ev
    exact ⟨_, h.setOwn rfl gp fp mp hp ⟨p, xs, rfl, upd_same, ha⟩⟩
  | .dic ks, ⟨p, xs, ev, gp, fp, mp, hp, ha⟩ => by
    subst ev
    exact ⟨_, h.setOwn rfl gp fp mp hp ⟨p, xs, rfl, upd_same, ha⟩⟩
/-- the def's own list in slot i changes -/
theorem LR.change (h : LR K F M G H σ L) {i : Nat} {d d' : D} {p : Addr} {o' : HO} (e : getE L i = some d) (hm : d.isMut = true) (hm' : d'.isMut = true) (hs : σ[i]? = some (some (.ref p))) (hp : ∃ o, M p = some o)
    (ok : SlotOk K (upd M p o') G (some (some (.ref p))) d') : LR K F (upd M p o') G (upd H p o') σ (setE L i (some d')) := by
  obtain ⟨o, hp⟩ := hp
  have gp : G p = none := h.mg _ _ hp
  have fp : F p = none := by
    cases q : F p with
    | none => rfl
    | some u =>
      rw [h.fm _ _ q] at hp
      cases hp
  refine ⟨same_mut h.f fp, fun b u q => ?_, same_mut h.g gp, fun a u q => ?_, h.fg, fun a u q => ?_, fun j dj ej => ?_, by rw [setE_len]; exact h.len, fun j k a dj dk e1 e2 m1 m2 s1 s2 => ?_⟩
  · by_cases hb : b = p
    · subst hb
      rw [upd_same] at q ⊢
      exact q
    · rw [upd_ne hb] at q ⊢
      exact h.m _ _ q
  · rw [upd_ne (ne_of_none q fp)]
    exact h.fm _ _ q
  · by_cases hb : a = p
    · subst hb
      exact gp
    · rw [upd_ne hb] at q
      exact h.mg _ _ q
  · by_cases hj : j = i
    · subst hj
      have ed := getE_set_same _ _ _ _ ej
      subst ed
      rw [hs]
      exact ok
    · rw [getE_set_ne _ _ _ _ hj] at ej
      have q := h.slot j dj ej
      cases dj with
      | val _ => exact q
      | own ds =>
        obtain ⟨p', xs, e1, e2, e3⟩ := q
        have np : p' ≠ p := fun z => by
          subst z
          exact hj (h.inj j i p' _ _ ej e rfl hm e1 hs)
        exact ⟨p', xs, e1, by rw [upd_ne np]; exact e2, e3⟩
      | dic ks =>
        obtain ⟨p', xs, e1, e2, e3⟩ := q
        have np : p' ≠ p := fun z => by
          subst z
          exact hj (h.inj j i p' _ _ ej e rfl hm e1 hs)
        exact ⟨p', xs, e1, by rw [upd_ne np]; exact e2, e3⟩
  · have back : ∀ {j dj}, getE (setE L i (some d')) j = some dj → dj.isMut = true → ∃ dj', getE L j = some dj' ∧ dj'.isMut = true := fun {j dj} ej m => by
      by_cases hj : j = i
      · subst hj
        exact ⟨d, e, hm⟩
      · rw [getE_set_ne _ _ _ _ hj] at ej
        exact ⟨dj, ej, m⟩
    obtain ⟨dj', e1', m1'⟩ := back e1 m1
    obtain ⟨dk', e2', m2'⟩ := back e2 m2
    exact h.inj j k a dj' dk' e1' e2' m1' m2' s1 s2
/-- the def's own list in slot i comes to stay -/
theorem LR.freeze (h : LR K F M G H σ L) {i : Nat} {ds : List PD} (e : getE L i = some (.own ds)) : ∃ M' G', Same G G' ∧ LR K F M' G' H σ (setE L i (some (.val (.list ds)))) := by
  obtain ⟨p, xs, hs, hp, ha⟩ := h.slot i _ e
  have gp : G p = none := h.mg _ _ hp
  have fp : F p = none := by
    cases q : F p with
    | none => rfl
    | some u =>
      rw [h.fm _ _ q] at hp
      cases hp
  have gg : Same G (upd G p (.lst xs)) := same_new gp
  refine ⟨fun a => if a = p then none else M a, upd G p (.lst xs), gg, h.f, fun b u q => ?_, fun b u q => ?_, fun a u q => ?_, fun a u q => ?_, fun a u q => ?_, fun j dj ej => ?_, by rw [setE_len]; exact h.len, fun j k a dj dk e1 e2 m1 m2 s1 s2 => ?_⟩
  · split at q
    · cases q
    · exact h.m _ _ q
  · by_cases hb : b = p
    · subst hb
      rw [upd_same] at q
      rw [h.m _ _ hp]
      exact q
    · rw [upd_ne hb] at q
      exact h.g _ _ q
  · split
    · rfl
    · exact h.fm _ _ q
  · rw [upd_ne (ne_of_none q fp)]
    exact h.fg _ _ q
  · split at q
    · cases q
    · rename_i hb
      rw [upd_ne hb]
      exact h.mg _ _ q
  · by_cases hj : j = i
    · subst hj
      have ed := getE_set_same _ _ _ _ ej
      subst ed
      exact ⟨.ref p, hs, .lst upd_same (dpAll_mono gg _ _ ha)⟩
    · rw [getE_set_ne _ _ _ _ hj] at ej
      have q := h.slot j dj ej
      cases dj with
      | val _ => exact slot_mono (Same.refl M) gg q
      | own es =>
        obtain ⟨p', xs', e1, e2, e3⟩ := q
        have np : p' ≠ p := fun z => by
          subst z
          exact hj (h.inj j i p' _ _ ej e rfl rfl e1 hs)
        exact ⟨p', xs', e1, by dsimp only; rw [if_neg np]; exact e2, dpAll_mono gg _ _ e3⟩
      | dic ks =>
        obtain ⟨p', xs', e1, e2, e3⟩ := q
        have np : p' ≠ p := fun z => by
          subst z
          exact hj (h.inj j i p' _ _ ej e rfl rfl e1 hs)
        exact ⟨p', xs', e1, by dsimp only; rw [if_neg np]; exact e2, kv_mono gg e3⟩
  · have back : ∀ {j dj}, getE (setE L i (some (.val (.list ds)))) j = some dj → dj.isMut = true → getE L j = some dj := fun {j dj} ej m => by
      by_cases hj : j = i
      · subst hj
        have ed := getE_set_same _ _ _ _ ej
        subst ed
        cases m
      · rw [getE_set_ne _ _ _ _ hj] at ej
        exact ej
    exact h.inj j k a dj dk (back e1 m1) (back e2 m2) m1 m2 s1 s2
end
end
end Px
namespace Px
open PySem L2
noncomputable section
section
variable {X : Cx}
theorem peW {e : Expr} {t t' : TE} (h : PE X e t) (w : ∀ σ H Q, t' σ H Q → t σ H Q) : PE X e t' := ⟨fun pins s σ H Q I q => h.run pins s σ H Q I (w _ _ _ q)⟩
theorem ptW {e : Expr} {t t' : TT} (h : PT X e t) (w : ∀ σ H Q, t' σ H Q → t σ H Q) : PT X e t' := ⟨fun pins s σ H Q I q => h.run pins s σ H Q I (w _ _ _ q)⟩
theorem pwW {e : Expr} {t t' : TT} (h : PW X e t) (w : ∀ σ H Q, t' σ H Q → t σ H Q) : PW X e t' := ⟨fun wh pins s σ H Q I q => h.run wh pins s σ H Q I (w _ _ _ q)⟩
theorem paW {e : List Expr} {t t' : TA} (h : PA X e t) (w : ∀ σ H Q, t' σ H Q → t σ H Q) : PA X e t' := ⟨fun p pins s σ H Q I q => h.run p pins s σ H Q I (w _ _ _ q)⟩
theorem poW {e : Option Expr} {t t' : TO} (h : PO X e t) (w : ∀ σ H Q, t' σ H Q → t σ H Q) : PO X e t' := ⟨fun pins s σ H Q I q => h.run pins s σ H Q I (w _ _ _ q)⟩
theorem psW {e : Stmt} {t t' : TS} (h : PS X e t) (w : ∀ D σ H, t' D σ H → t D σ H) : PS X e t' := ⟨fun pins s σ H D I q => h.run pins s σ H D I (w _ _ _ q)⟩
theorem pssW {e : List Stmt} {t t' : TS} (h : PSs X e t) (w : ∀ D σ H, t' D σ H → t D σ H) : PSs X e t' := ⟨fun pins s σ H D I q => h.run pins s σ H D I (w _ _ _ q)⟩
theorem ptsW {e : List Expr} {t t' : TT} (h : PTs X e t) (w : ∀ σ H Q, t' σ H Q → t σ H Q) : PTs X e t' := ⟨fun pins s σ H Q I q => h.run pins s σ H Q I (w _ _ _ q)⟩
end
section
variable (K : PySem.W.Frag) (mg : Str → Option Value) (E : XK)
def OkR (F M G : Hp) (L : Env) (H : Hp) (σ : St) {α : Type} (P : α → Hp → Hp → Prop) : R α → Prop
  | .ok a => ∀ G2 H2, Same G G2 → Same H H2 → LR K F M G2 H2 σ L → P a G2 H2
  | .exc c => ∀ a H2, mg c = some (.ref a) → Same F H2 → Same G H2 → E (.ref a) none H2
  | .bad => False
/-- a value that stays, or a list of the def's own looked at -/
def BRes (G H : Hp) (v : V) (d : PD) : Prop := Dq K G v d ∨ ∃ a xs ds, v = .ref a ∧ d = .list ds ∧ H a = some (.lst xs) ∧ DqAll K G xs ds
def tX (f : Env → R PD) : TE := fun σ H Q => ∃ F M G L, LR K F M G H σ L ∧ OkR K mg E F M G L H σ (fun d G2 H2 => ∀ v, Dq K G2 v d → Q v H2) (f L)
def tF (f : Env → R D) : TE := fun σ H Q => ∃ F M G L, LR K F M G H σ L ∧ OkR K mg E F M G L H σ (fun d G2 H2 => ∀ v, DRes K F M G2 H2 v d → Q v H2) (f L)
def tBo (f : Env → R PD) : TE := fun σ H Q => ∃ F M G L, LR K F M G H σ L ∧ OkR K mg E F M G L H σ (fun d G2 H2 => ∀ v, BRes K G2 H2 v d → Q v H2) (f L)
def tT (f : Env → R Bool) : TT := fun σ H Q => ∃ F M G L, LR K F M G H σ L ∧ OkR K mg E F M G L H σ (fun b G2 H2 => Q b H2) (f L)
def tA (f : Env → R (List PD)) : TA := fun σ H Q => ∃ F M G L, LR K F M G H σ L ∧ OkR K mg E F M G L H σ (fun ds G2 H2 => ∀ vs, DqAll K G2 vs ds → Q vs H2) (f L)
def tO (f : Env → R (Option Int)) : TO := fun σ H Q => ∃ F M G L, LR K F M G H σ L ∧ OkR K mg E F M G L H σ (fun o G2 H2 => Q o H2) (f L)
end
abbrev XE (X : Cx) (E : XK) (e : Expr) (f : Env → R PD) : Prop := PE X e (tX X.K X.mg E f)
abbrev XF (X : Cx) (E : XK) (e : Expr) (f : Env → R D) : Prop := PE X e (tF X.K X.mg E f)
abbrev XB (X : Cx) (E : XK) (e : Expr) (f : Env → R PD) : Prop := PE X e (tBo X.K X.mg E f)
abbrev XT (X : Cx) (E : XK) (e : Expr) (f : Env → R Bool) : Prop := PT X e (tT X.K X.mg E f)
abbrev XW (X : Cx) (E : XK) (e : Expr) (f : Env → R Bool) : Prop := PW X e (tT X.K X.mg E f)
abbrev XA (X : Cx) (E : XK) (e : List Expr) (f : Env → R (List PD)) : Prop := PA X e (tA X.K X.mg E f)
abbrev XO (X : Cx) (E : XK) (e : Option Expr) (f : Env → R (Option Int)) : Prop := PO X e (tO X.K X.mg E f)
section
variable {K : PySem.W.Frag} {mg : Str → Option Value} {E : XK} {F M G G2 H H2 : Hp} {L : Env} {σ : St} {α β : Type}
theorem OkR.mono {P : α → Hp → Hp → Prop} (eG : Same G G2) (eH : Same H H2) : ∀ {r : R α}, OkR K mg E F M G L H σ P r → OkR K mg E F M G2 L H2 σ P r
  | .ok a, h => fun G3 H3 e1 e2 lr => h G3 H3 (eG.trans e1) (eH.trans e2) lr
  | .exc c, h => fun a H3 e f g => h a H3 e f (eG.trans g)
  | .bad, h => h
theorem OkR.imp {P P' : α → Hp → Hp → Prop} : ∀ {r : R α}, OkR K mg E F M G L H σ P r → (∀ a G2 H2, r = .ok a → Same G G2 → Same H H2 → LR K F M G2 H2 σ L → P a G2 H2 → P' a G2 H2) → OkR K mg E F M G L H σ P' r
  | .ok a, h, i => fun G3 H3 e1 e2 lr => i a G3 H3 rfl e1 e2 lr (h G3 H3 e1 e2 lr)
  | .exc c, h, _ => h
  | .bad, h, _ => h
/-- one evaluation, then what follows -/
theorem OkR.seq {P : β → Hp → Hp → Prop} {g : α → R β} : ∀ {r : R α}, OkR K mg E F M G L H σ P (r.bind g) → OkR K mg E F M G L H σ (fun a G1 H1 => OkR K mg E F M G1 L H1 σ P (g a)) r
  | .ok a, h => fun G3 H3 e1 e2 lr => OkR.mono e1 e2 h
  | .exc c, h => h
  | .bad, h => h
/-- an answer at once -/
theorem OkR.here {P : α → Hp → Hp → Prop} {a : α} (h : OkR K mg E F M G L H σ P (.ok a)) (lr : LR K F M G H σ L) : P a G H := h G H (Same.refl _) (Same.refl _) lr
theorem bres_mono {v : V} {d : PD} (eG : Same G G2) (eH : Same H H2) (h : BRes K G H v d) : BRes K G2 H2 v d := by
  rcases h with h | ⟨a, xs, ds, e1, e2, q, r⟩
  · exact .inl (dp_mono eG _ _ h)
  · exact .inr ⟨a, xs, ds, e1, e2, eH _ _ q, dpAll_mono eG _ _ r⟩
theorem bres_int {v : V} {i : Int} (h : BRes K G H v (.int i)) : v = .int i := by
  rcases h with h | ⟨a, xs, ds, e1, e2, _⟩
  · cases h; rfl
  · cases e2
theorem bres_bl {v : V} {i : Bool} (h : BRes K G H v (.bool i)) : v = .bl i := by
  rcases h with h | ⟨a, xs, ds, e1, e2, _⟩
  · cases h; rfl
  · cases e2
theorem bres_str {v : V} {i : Str} (h : BRes K G H v (.str i)) : v = .str i := by
  rcases h with h | ⟨a, xs, ds, e1, e2, _⟩
  · cases h; rfl
  · cases e2
theorem bres_non {v : V} (h : BRes K G H v .none) : v = .non := by
  rcases h with h | ⟨a, xs, ds, e1, e2, _⟩
  · cases h; rfl
  · cases e2
theorem bres_list {v : V} {ds : List PD} (g : Same G H) (h : BRes K G H v (.list ds)) : ∃ a xs, v = .ref a ∧ H a = some (.lst xs) ∧ DqAll K G xs ds := by
  rcases h with h | ⟨a, xs, ds', e1, e2, q, r⟩
  · cases h with
    | lst q r => exact ⟨_, _, rfl, g _ _ q, r⟩
  · cases e2
    exact ⟨a, xs, e1, q, r⟩
theorem bres_tuple {v : V} {ds : List PD} (g : Same G H) (h : BRes K G H v (.tuple ds)) : ∃ a xs, v = .ref a ∧ H a = some (.tup xs) ∧ DqAll K G xs ds := by
  rcases h with h | ⟨a, xs, ds', e1, e2, q, r⟩
  · cases h with
    | tup q r => exact ⟨_, _, rfl, g _ _ q, r⟩
  · cases e2
theorem bres_dp {v : V} {d : PD} (g : Same G H) (h : BRes K G H v d) : Dq K H v d := by
  rcases h with h | ⟨a, xs, ds', e1, e2, q, r⟩
  · exact dp_mono g _ _ h
  · subst e1
    subst e2
    exact .lst q (dpAll_mono g _ _ r)
end
section
variable (K : PySem.W.Frag) (mg : Str → Option Value) (E : XK)
/-- two places looked at, a value that stays -/
def R2X (r : R2) (g : PD → PD → R PD) : Prop := ∀ {F M G H : Hp} {σ : St} {L : Env} {x y : V} {dx dy : PD} {Q : VK}, LR K F M G H σ L → BRes K G H x dx → BRes K G H y dy →
  OkR K mg E F M G L H σ (fun d G2 H2 => ∀ v, Dq K G2 v d → Q v H2) (g dx dy) → r x y H Q
/-- .. a new list -/
def R2F (r : R2) (g : PD → PD → R D) : Prop := ∀ {F M G H : Hp} {σ : St} {L : Env} {x y : V} {dx dy : PD} {Q : VK}, LR K F M G H σ L → BRes K G H x dx → BRes K G H y dy →
  OkR K mg E F M G L H σ (fun d G2 H2 => ∀ v, DRes K F M G2 H2 v d → Q v H2) (g dx dy) → r x y H Q
/-- .. True or False -/
def R2T (r : R2) (g : PD → PD → R Bool) : Prop := ∀ {F M G H : Hp} {σ : St} {L : Env} {x y : V} {dx dy : PD} {Q : VK}, LR K F M G H σ L → BRes K G H x dx → BRes K G H y dy →
  OkR K mg E F M G L H σ (fun b G2 H2 => Q (.bl b) H2) (g dx dy) → r x y H Q
/-- one place -/
def R1X (r : List V → Hp → VK → Prop) (g : PD → R PD) : Prop := ∀ {F M G H : Hp} {σ : St} {L : Env} {x : V} {dx : PD} {Q : VK}, LR K F M G H σ L → BRes K G H x dx →
  OkR K mg E F M G L H σ (fun d G2 H2 => ∀ v, Dq K G2 v d → Q v H2) (g dx) → r [x] H Q
def R1F (r : List V → Hp → VK → Prop) (g : PD → R D) : Prop := ∀ {F M G H : Hp} {σ : St} {L : Env} {x : V} {dx : PD} {Q : VK}, LR K F M G H σ L → BRes K G H x dx →
  OkR K mg E F M G L H σ (fun d G2 H2 => ∀ v, DRes K F M G2 H2 v d → Q v H2) (g dx) → r [x] H Q
end
def op2 {α : Type} (g : PD → PD → R α) (fa fb : Env → R PD) : Env → R α := fun L => (fa L).bind fun x => (fb L).bind fun y => g x y
def op1 {α : Type} (g : PD → R α) (fa : Env → R PD) : Env → R α := fun L => (fa L).bind g
def fz : D → R PD
  | .val d => .ok d
  | .own ds => .ok (.list ds)
  | .dic _ => .bad
def constE (d : PD) : Env → R PD := fun _ => .ok d
def slotE (o : Option D) : R PD := match o with
  | some (.val d) => .ok d
  | _ => .bad
def slotB (o : Option D) : R PD := match o with
  | some (.val d) => .ok d
  | some (.own ds) => .ok (.list ds)
  | _ => .bad
def varE (i : Nat) : Env → R PD := fun L => slotE (getE L i)
def varB (i : Nat) : Env → R PD := fun L => slotB (getE L i)
def asB : PD → R Bool
  | .bool b => .ok b
  | _ => .bad
def valD (d : PD) : R D := .ok (.val d)
def valF (f : Env → R PD) : Env → R D := fun L => (f L).bind valD
def fzE (f : Env → R D) : Env → R PD := fun L => (f L).bind fz
def bV (r : R Bool) : R PD := r.bind fun b => .ok (.bool b)
def bvE (f : Env → R Bool) : Env → R PD := fun L => bV (f L)
section
variable {X : Cx} {E : XK} {a b c : Expr} {fa fb fc : Env → R PD} {pos : Pos}
theorem xb_of (h : XE X E a fa) : XB X E a fa := peW h fun σ H Q ⟨F, M, G, L, lr, q⟩ => ⟨F, M, G, L, lr, q.imp fun d G2 H2 _ _ _ _ p v hv => p v (.inl hv)⟩
theorem xf_of (h : XE X E a fa) : XF X E a (valF fa) := peW h fun σ H Q ⟨F, M, G, L, lr, q⟩ => ⟨F, M, G, L, lr, q.seq.imp fun d G2 H2 _ _ _ lr2 p v hv => p.here lr2 v hv⟩
theorem xe_fz {f : Env → R D} (h : XF X E a f) : XE X E a (fzE f) := peW h fun σ H Q ⟨F, M, G, L, lr, q⟩ => ⟨F, M, G, L, lr, q.seq.imp fun d G2 H2 _ _ _ lr2 p v hv => by
  cases d with
  | val d => exact p.here lr2 v hv
  | own ds =>
    obtain ⟨p', xs, ev, gp, fp, mp, hp, ha⟩ := hv
    subst ev
    obtain ⟨lr3, gg⟩ := lr2.keep hp gp fp mp
    exact p _ H2 gg (Same.refl _) lr3 (.ref p') (.lst upd_same (dpAll_mono gg _ _ ha))
  | dic ks => exact False.elim p⟩
theorem xe_var (i : Nat) {x : Str} (hN : X.N[i]? = some x := by rfl) (hv : Vis X.env.scope x := by first | exact Or.inl rfl | exact Or.inr (Or.inl rfl) | exact Or.inr (Or.inr rfl)) (hd : (x == ("__debug__" : Str)) = false := by decide)
    (hcd : (x == ("__classdict__" : Str)) = false := by decide) : XE X E (.Name x pos) (varE i) := peW (pe_var hN hv hd hcd) fun σ H Q ⟨F, M, G, L, lr, q⟩ => by
  unfold varE at q
  cases e : getE L i with
  | none => rw [e] at q; exact False.elim q
  | some d =>
    rw [e] at q
    cases d with
    | val d =>
      obtain ⟨v, hs, hv⟩ := lr.slot i _ e
      exact ⟨v, hs, OkR.here q lr v hv⟩
    | own ds => exact False.elim q
    | dic ds => exact False.elim q
theorem xb_var (i : Nat) {x : Str} (hN : X.N[i]? = some x := by rfl) (hv : Vis X.env.scope x := by first | exact Or.inl rfl | exact Or.inr (Or.inl rfl) | exact Or.inr (Or.inr rfl)) (hd : (x == ("__debug__" : Str)) = false := by decide)
    (hcd : (x == ("__classdict__" : Str)) = false := by decide) : XB X E (.Name x pos) (varB i) := peW (pe_var hN hv hd hcd) fun σ H Q ⟨F, M, G, L, lr, q⟩ => by
  unfold varB at q
  cases e : getE L i with
  | none => rw [e] at q; exact False.elim q
  | some d =>
    rw [e] at q
    cases d with
    | val d =>
      obtain ⟨v, hs, hv⟩ := lr.slot i _ e
      exact ⟨v, hs, OkR.here q lr v (.inl hv)⟩
    | own ds =>
      obtain ⟨p, xs, hs, hp, ha⟩ := lr.slot i _ e
      exact ⟨.ref p, hs, OkR.here q lr _ (.inr ⟨p, xs, ds, rfl, rfl, lr.m _ _ hp, ha⟩)⟩
    | dic ds => exact False.elim q
theorem xe_int {i j} : XE X E (.Constant (.int i) j pos) (constE (.int i)) := peW pe_int fun σ H Q ⟨F, M, G, L, lr, q⟩ => OkR.here q lr _ (.int i)
theorem xe_bl {i j} : XE X E (.Constant (.bool i) j pos) (constE (.bool i)) := peW pe_bl fun σ H Q ⟨F, M, G, L, lr, q⟩ => OkR.here q lr _ (.bl i)
theorem xe_non {j} : XE X E (.Constant .none j pos) (constE .none) := peW pe_non fun σ H Q ⟨F, M, G, L, lr, q⟩ => OkR.here q lr _ .non
theorem xe_str {i j} : XE X E (.Constant (.str i) j pos) (constE (.str i)) := peW pe_str fun σ H Q ⟨F, M, G, L, lr, q⟩ => OkR.here q lr _ (.str i)
theorem xe_globI {x : Str} {i : Int} {t : Tok} (hg : Gl X x) (hm : X.mg x = some (.int i t)) (hd : (x == ("__debug__" : Str)) = false := by decide) : XE X E (.Name x pos) (constE (.int i)) :=
  peW (pe_glob (v := .int i) hg hm ⟨_, rfl⟩ hd) fun σ H Q ⟨F, M, G, L, lr, q⟩ => OkR.here q lr _ (.int i)
theorem xe_globS {x z : Str} {t : Tok} (hg : Gl X x) (hm : X.mg x = some (.str z t)) (hd : (x == ("__debug__" : Str)) = false := by decide) : XE X E (.Name x pos) (constE (.str z)) :=
  peW (pe_glob (v := .str z) hg hm ⟨_, rfl⟩ hd) fun σ H Q ⟨F, M, G, L, lr, q⟩ => OkR.here q lr _ (.str z)
theorem two {r : R2} {α : Type} {P : α → Hp → Hp → Prop} {g : PD → PD → R α} {K : PySem.W.Frag} {mg : Str → Option Value} {σ : St} {H : Hp} {Q : VK} {F M G : Hp} {L : Env} (lr : LR K F M G H σ L) (q : OkR K mg E F M G L H σ P (op2 g fa fb L))
    (rule : ∀ {G1 H1 : Hp} {x y : V} {dx dy : PD}, LR K F M G1 H1 σ L → Same G G1 → Same H H1 → BRes K G1 H1 x dx → BRes K G1 H1 y dy → OkR K mg E F M G1 L H1 σ P (g dx dy) → r x y H1 Q) :
    tOp r (tBo K mg E fa) (tBo K mg E fb) σ H Q := by
  refine ⟨F, M, G, L, lr, (OkR.seq q).imp fun dx G1 H1 _ e1 e2 lr1 p1 x hx => ?_⟩
  refine ⟨F, M, G1, L, lr1, (OkR.seq p1).imp fun dy G2 H2 _ e3 e4 lr2 p2 y hy => ?_⟩
  exact rule lr2 (e1.trans e3) (e2.trans e4) (bres_mono e3 e4 hx) hy p2
theorem xe_op {op : Operator} {r : R2} {g : PD → PD → R PD} (ho : OpR X (binaryOp op) r) (rule : R2X X.K X.mg E r g) (ha : XB X E a fa) (hb : XB X E b fb) : XE X E (.BinOp a op b pos) (op2 g fa fb) :=
  peW (pe_op ho ha hb) fun σ H Q ⟨F, M, G, L, lr, q⟩ => two lr q fun lr1 _ _ hx hy p => rule lr1 hx hy p
theorem xf_op {op : Operator} {r : R2} {g : PD → PD → R D} (ho : OpR X (binaryOp op) r) (rule : R2F X.K X.mg E r g) (ha : XB X E a fa) (hb : XB X E b fb) : XF X E (.BinOp a op b pos) (op2 g fa fb) :=
  peW (pe_op ho ha hb) fun σ H Q ⟨F, M, G, L, lr, q⟩ => two lr q fun lr1 _ _ hx hy p => rule lr1 hx hy p
theorem xe_cmp {op : CmpOp} {r : R2} {g : PD → PD → R Bool} (ho : OpR X (compareOp op) r) (rule : R2T X.K X.mg E r g) (ha : XB X E a fa) (hb : XB X E b fb) (hm : behindInMarks op b = false) : XE X E (.Compare a [op] [b] pos) (bvE (op2 g fa fb)) :=
  peW (pe_cmpR ho ha hb hm) fun σ H Q ⟨F, M, G, L, lr, q⟩ => two (P := fun b G2 H2 => Q (.bl b) H2) lr (q.seq.imp fun k G2 H2 _ _ _ lr2 p => p.here lr2 _ (.bl k)) fun lr1 _ _ hx hy p => rule lr1 hx hy p
theorem xt_cmp {op : CmpOp} {r : R2} {g : PD → PD → R Bool} (ho : OpR X (compareOp op) r) (rule : R2T X.K X.mg E r g) (ha : XB X E a fa) (hb : XB X E b fb) (hm : behindInMarks op b = false) : XT X E (.Compare a [op] [b] pos) (op2 g fa fb) :=
  ptW (pt_cmpR ho ha hb hm) fun σ H Q ⟨F, M, G, L, lr, q⟩ => two (Q := fun x H' => ∃ k, x = .bl k ∧ Q k H') (P := fun b G2 H2 => Q b H2) lr q fun lr1 _ _ hx hy p => rule lr1 hx hy (p.imp fun k G2 H2 _ _ _ _ h => ⟨k, rfl, h⟩)
/-- an expression that gives True or False, as a test -/
theorem xt_val (h : XE X E a fa) (he : ∀ whole, isTrue a X.env whole = (do let v ← whole; standAt a.pos; holding [v] (truthy v)) := by intro _; rfl) : XT X E a (op1 asB fa) :=
  ptW (pt_val h he) fun σ H Q ⟨F, M, G, L, lr, q⟩ => ⟨F, M, G, L, lr, q.seq.imp fun d G2 H2 _ _ _ lr2 p v hv => by
    cases d with
    | bool b =>
      cases hv
      exact ⟨b, rfl, p.here lr2⟩
    | _ => exact False.elim p⟩
def notT (f : Env → R Bool) : Env → R Bool := fun L => (f L).bind fun b => .ok (!b)
def andT (f g : Env → R Bool) : Env → R Bool := fun L => (f L).bind fun b => if b = true then g L else .ok false
def orT (f g : Env → R Bool) : Env → R Bool := fun L => (f L).bind fun b => if b = true then .ok true else g L
variable {ft fu : Env → R Bool} {rest : List Expr}
theorem xt_not (h : XT X E a ft) : XT X E (.UnaryOp .Not a pos) (notT ft) := ptW (pt_not h) fun σ H Q ⟨F, M, G, L, lr, q⟩ => ⟨F, M, G, L, lr, q.seq.imp fun d G2 H2 _ _ _ lr2 p => p.here lr2⟩
theorem xw_and1 (h : XT X E a ft) : XW X E (.BoolOp .And [a] pos) ft := pw_and1 h
theorem xw_or1 (h : XT X E a ft) : XW X E (.BoolOp .Or [a] pos) ft := pw_or1 h
theorem xw_and (ha : XT X E a ft) (hb : XW X E (.BoolOp .And (b :: rest) pos) fu) : XW X E (.BoolOp .And (a :: b :: rest) pos) (andT ft fu) :=
  pwW (pw_and ha hb) fun σ H Q ⟨F, M, G, L, lr, q⟩ => ⟨F, M, G, L, lr, (OkR.seq q).imp fun k G2 H2 _ _ _ lr2 p => by
    cases k with
    | true => exact ⟨F, M, G2, L, lr2, p⟩
    | false => exact p.here lr2⟩
theorem xw_or (ha : XT X E a ft) (hb : XW X E (.BoolOp .Or (b :: rest) pos) fu) : XW X E (.BoolOp .Or (a :: b :: rest) pos) (orT ft fu) :=
  pwW (pw_or ha hb) fun σ H Q ⟨F, M, G, L, lr, q⟩ => ⟨F, M, G, L, lr, (OkR.seq q).imp fun k G2 H2 _ _ _ lr2 p => by
    cases k with
    | true => exact p.here lr2
    | false => exact ⟨F, M, G2, L, lr2, p⟩⟩
theorem xt_w (h : XW X E a ft) : XT X E a ft := h.pt
/-- and, or, not as values: all True or False -/
def boV (f : Env → R PD) : Env → R Bool := op1 asB f
def andV (f g : Env → R PD) : Env → R PD := fun L => (f L).bind fun d => (asB d).bind fun b => if b = true then g L else .ok (.bool false)
def orV (f g : Env → R PD) : Env → R PD := fun L => (f L).bind fun d => (asB d).bind fun b => if b = true then .ok (.bool true) else g L
def notV (f : Env → R PD) : Env → R PD := fun L => (f L).bind fun d => (asB d).bind fun b => .ok (.bool (!b))
theorem xe_one {op} (h : XE X E a fa) : XE X E (.BoolOp op [a] pos) fa := pe_one h
theorem xe_and (ha : XE X E a fa) (hb : XE X E (.BoolOp .And (b :: rest) pos) fb) : XE X E (.BoolOp .And (a :: b :: rest) pos) (andV fa fb) :=
  peW (pe_and ha hb) fun σ H Q ⟨F, M, G, L, lr, q⟩ => ⟨F, M, G, L, lr, (OkR.seq q).imp fun d G2 H2 _ _ _ lr2 p v hv => by
    cases d with
    | bool k =>
      cases hv
      cases k with
      | true => exact ⟨true, rfl, ⟨F, M, G2, L, lr2, p⟩⟩
      | false => exact ⟨false, rfl, OkR.here p lr2 _ (.bl false)⟩
    | _ => exact False.elim p⟩
theorem xe_or (ha : XE X E a fa) (hb : XE X E (.BoolOp .Or (b :: rest) pos) fb) : XE X E (.BoolOp .Or (a :: b :: rest) pos) (orV fa fb) :=
  peW (pe_or ha hb) fun σ H Q ⟨F, M, G, L, lr, q⟩ => ⟨F, M, G, L, lr, (OkR.seq q).imp fun d G2 H2 _ _ _ lr2 p v hv => by
    cases d with
    | bool k =>
      cases hv
      cases k with
      | true => exact ⟨true, rfl, OkR.here p lr2 _ (.bl true)⟩
      | false => exact ⟨false, rfl, ⟨F, M, G2, L, lr2, p⟩⟩
    | _ => exact False.elim p⟩
theorem xe_not (ha : XE X E a fa) : XE X E (.UnaryOp .Not a pos) (notV fa) :=
  peW (pe_not ha) fun σ H Q ⟨F, M, G, L, lr, q⟩ => ⟨F, M, G, L, lr, (OkR.seq q).imp fun d G2 H2 _ _ _ lr2 p v hv => by
    cases d with
    | bool k =>
      cases hv
      exact ⟨k, rfl, OkR.here p lr2 _ (.bl (!k))⟩
    | _ => exact False.elim p⟩
def iteE {α : Type} (t : Env → R Bool) (f g : Env → R α) : Env → R α := fun L => (t L).bind fun b => if b = true then f L else g L
theorem xe_if (hc : XT X E c ft) (ha : XE X E a fa) (hb : XE X E b fb) : XE X E (.IfExp c a b pos) (iteE ft fa fb) :=
  peW (pe_ifExp hc ha hb) fun σ H Q ⟨F, M, G, L, lr, q⟩ => ⟨F, M, G, L, lr, (OkR.seq q).imp fun k G2 H2 _ _ _ lr2 p => by
    cases k with
    | true => exact ⟨F, M, G2, L, lr2, p⟩
    | false => exact ⟨F, M, G2, L, lr2, p⟩⟩
def argsE : List (Env → R PD) → Env → R (List PD)
  | [], _ => .ok []
  | f :: fs, L => (f L).bind fun d => (argsE fs L).bind fun ds => .ok (d :: ds)
theorem argsE_len : ∀ {fs : List (Env → R PD)} {L : Env} {ds : List PD}, argsE fs L = .ok ds → ds.length = fs.length
  | [], _, _, h => by cases h; rfl
  | f :: fs, L, ds, h => by
    unfold argsE at h
    cases e : f L with
    | ok d =>
      rw [e] at h
      cases e2 : argsE fs L with
      | ok es =>
        rw [e2] at h
        cases h
        show _ + 1 = _ + 1
        rw [argsE_len e2]
      | exc c => rw [e2] at h; cases h
      | bad => rw [e2] at h; cases h
    | exc c => rw [e] at h; cases h
    | bad => rw [e] at h; cases h
variable {es : List Expr} {fs : List (Env → R PD)}
theorem xa_nil : XA X E [] (argsE []) := paW pa_nil fun σ H Q ⟨F, M, G, L, lr, q⟩ => OkR.here q lr _ .nil
theorem xa_cons (ha : XE X E a fa) (hr : XA X E es (argsE fs)) (hs : starEach (a :: es) X.env = (false, eval a X.env) :: starEach es X.env := by rfl) : XA X E (a :: es) (argsE (fa :: fs)) :=
  paW (pa_cons ha hr hs) fun σ H Q ⟨F, M, G, L, lr, q⟩ => ⟨F, M, G, L, lr, (OkR.seq q).imp fun d G2 H2 _ _ _ lr2 p v hv => ⟨F, M, G2, L, lr2, (OkR.seq p).imp fun ds G3 H3 _ e3 _ lr3 p3 vs hvs => p3.here lr3 _ (.cons (dp_mono e3 _ _ hv) hvs)⟩⟩
theorem line_of {n : Nat} (h : n ≤ 1000000) : n ≤ sizeLine := Nat.le_trans h (by decide)
def tupE (fs : List (Env → R PD)) : Env → R PD := fun L => (argsE fs L).bind fun ds => .ok (.tuple ds)
def lstE (fs : List (Env → R PD)) : Env → R D := fun L => (argsE fs L).bind fun ds => .ok (.own ds)
theorem xe_tup {x1} (h : XA X E es (argsE fs)) (hl : fs.length ≤ 1000000 := by decide) : XE X E (.Tuple es x1 pos) (tupE fs) :=
  peW (pe_tup h) fun σ H Q ⟨F, M, G, L, lr, q⟩ => ⟨F, M, G, L, lr, (OkR.seq q).imp fun ds G2 H2 eq _ _ lr2 p vs hvs => by
    refine ⟨by rw [dpAll_len hvs, argsE_len eq]; exact line_of hl, fun a na => ?_⟩
    obtain ⟨lr3, gg, hh⟩ := lr2.new (o := .tup vs) na
    exact p _ _ gg hh lr3 (.ref a) (.tup upd_same (dpAll_mono gg _ _ hvs))⟩
theorem xf_lst (h : XA X E es (argsE fs)) (hl : fs.length ≤ 1000000 := by decide) : XF X E (.List es pos) (lstE fs) :=
  peW (pe_lst h) fun σ H Q ⟨F, M, G, L, lr, q⟩ => ⟨F, M, G, L, lr, (OkR.seq q).imp fun ds G2 H2 eq _ _ lr2 p vs hvs => by
    refine ⟨by rw [dpAll_len hvs, argsE_len eq]; exact line_of hl, fun a na => ?_⟩
    obtain ⟨lr3, hh, gp, fp, mp⟩ := lr2.newM (o := .lst vs) na
    exact p _ _ (Same.refl _) hh lr3 (.ref a) ⟨a, vs, rfl, gp, fp, mp, upd_same, hvs⟩⟩
end
end
end Px
namespace Px
open PySem L2
noncomputable section
/-- a choice that the kernel does not reckon -/
def cif {α : Type} (c : Prop) (a b : α) : α := @ite α c (Classical.propDecidable c) a b
theorem cif_pos {α : Type} {c : Prop} {a b : α} (h : c) : cif c a b = a := by
  unfold cif
  exact if_pos h
theorem cif_neg {α : Type} {c : Prop} {a b : α} (h : ¬ c) : cif c a b = b := by
  unfold cif
  exact if_neg h
def addP : PD → PD → R PD
  | .int i, .int j => .ok (.int (i + j))
  | .str a, .str b => cif (a.length + b.length ≤ 1000000) (.ok (.str (a ++ b))) .bad
  | _, _ => .bad
def subP : PD → PD → R PD
  | .int i, .int j => .ok (.int (i - j))
  | _, _ => .bad
def mulOk (i j : Int) : Prop := (-(2 ^ 64) < i ∧ i < 2 ^ 64) ∨ (-(2 ^ 64) < j ∧ j < 2 ^ 64)
def mulP : PD → PD → R PD
  | .int i, .int j => cif (mulOk i j) (.ok (.int (i * j))) .bad
  | _, _ => .bad
def divP : PD → PD → R PD
  | .int i, .int j => cif (0 < j ∧ j < 1073741824) (.ok (.int (i / j))) .bad
  | _, _ => .bad
def modP : PD → PD → R PD
  | .int i, .int j => cif (0 < j) (.ok (.int (i % j))) .bad
  | _, _ => .bad
def powP : PD → PD → R PD
  | .int i, .int j => cif (0 ≤ j ∧ j ≤ 1000000 ∧ i.natAbs < 2 ^ 64) (.ok (.int (i ^ j.toNat))) .bad
  | _, _ => .bad
def catP : PD → PD → R D
  | .list a, .list b => cif (a.length + b.length ≤ 1000000) (.ok (.own (a ++ b))) .bad
  | _, _ => .bad
def repP : PD → PD → R D
  | .list a, .int k => cif (0 ≤ k ∧ k ≤ 1000 ∧ a.length ≤ 1000) (.ok (.own (List.replicate k.toNat a).flatten)) .bad
  | _, _ => .bad
def negP : PD → R PD
  | .int i => .ok (.int (-i))
  | _ => .bad
def cmpP (p : Int → Int → Bool) : PD → PD → R Bool
  | .int i, .int j => .ok (p i j)
  | _, _ => .bad
def ltP := cmpP fun i j => decide (i < j)
def leP := cmpP fun i j => decide (i ≤ j)
def gtP := cmpP fun i j => decide (j < i)
def geP := cmpP fun i j => decide (j ≤ i)
def eqP (a b : PD) : R Bool := cif (SeqAt.shaped a = true ∧ SeqAt.shaped b = true) (.ok (PyData.eqv a b)) .bad
def neP (a b : PD) : R Bool := cif (SeqAt.shaped a = true ∧ SeqAt.shaped b = true) (.ok (!PyData.eqv a b)) .bad
def isNon : PD → Bool
  | .none => true
  | _ => false
def isNP : PD → PD → R Bool
  | a, .none => .ok (isNon a)
  | _, _ => .bad
def notNP : PD → PD → R Bool
  | a, .none => .ok (!isNon a)
  | _, _ => .bad
def isBP : PD → PD → R Bool
  | .bool a, .bool b => .ok (decide (a = b))
  | _, _ => .bad
def flatP : PD → Bool
  | .none => true
  | .bool _ => true
  | .int _ => true
  | .str _ => true
  | _ => false
def inP (neg : Bool) : PD → PD → R Bool
  | x, .list ds => cif (SeqAt.shaped x = true ∧ SeqAt.shaped (.list ds) = true) (.ok (if neg = true then !ds.any (fun z => PyData.eqv z x) else ds.any fun z => PyData.eqv z x)) .bad
  | x, .tuple ds => cif (flatP x = true ∧ ds.all flatP = true) (.ok (if neg = true then !ds.any (fun z => PyData.eqv z x) else ds.any fun z => PyData.eqv z x)) .bad
  | .str ⟨⟨[c]⟩⟩, .str z => .ok (if neg = true then !decide (c ∈ z.cps.toList) else decide (c ∈ z.cps.toList))
  | _, _ => .bad
def ofO {α : Type} (f : α → PD) : Option α → R PD
  | some a => .ok (f a)
  | none => .bad
def ixP : PD → PD → R PD
  | .list ds, .int i => ofO id (atI ds i)
  | .tuple ds, .int i => ofO id (atI ds i)
  | .str z, .int i => cif (z.length ≤ 1000000) (ofO (fun c => .str ⟨#[c]⟩) (atI z.cps.toList i)) .bad
  | .dict [(.list ns, .none)], .int i => ofO id (atI ns i)
  | _, _ => .bad
def cutP (ds : List PD) (lo hi : Option Int) : List PD := (ds.drop (HT.sIx ds.length 0 lo)).take (HT.sIx ds.length ds.length hi - HT.sIx ds.length 0 lo)
def lenP : PD → R PD
  | .list ds => .ok (.int ds.length)
  | .tuple ds => .ok (.int ds.length)
  | .str z => cif (z.length ≤ 1000000) (.ok (.int z.length)) .bad
  | .dict [(.list ns, .none)] => .ok (.int ns.length)
  | _ => .bad
def listP : PD → R D
  | .list ds => .ok (.own ds)
  | .tuple ds => .ok (.own ds)
  | _ => .bad
def absP : PD → R PD
  | .int i => .ok (.int (if i < 0 then -i else i))
  | _ => .bad
def intP : PD → R PD
  | .int i => .ok (.int i)
  | .bool k => .ok (.int (if k = true then 1 else 0))
  | .str a => match PySem.intText? a with
    | some n => cif (a.length ≤ 640) (.ok (.int n)) .bad
    | none => .bad
  | _ => .bad
def strP : PD → R PD
  | .int i => cif (i.natAbs.log2 < 1920) (.ok (.str (toString i))) .bad
  | _ => .bad
def tyN : PD → String
  | .none => "NoneType"
  | .bool _ => "bool"
  | .int _ => "int"
  | .str _ => "str"
  | .list _ => "list"
  | .tuple _ => "tuple"
  | .dict _ => ""
def isiQ (T U : String) : R PD := match kitB U T with
  | some b => .ok (.bool b)
  | none => .bad
def isiP (T : String) : PD → R PD
  | .dict _ => .bad
  | d => isiQ T (tyN d)
section
variable {K : PySem.W.Frag} {mg : Str → Option Value} {E : XK} {X : Cx}
theorem ok_ite {F M G H : Hp} {L : Env} {σ : St} {α : Type} {P : α → Hp → Hp → Prop} {c : Prop} {r : R α} (h : OkR K mg E F M G L H σ P (cif c r .bad)) : c ∧ OkR K mg E F M G L H σ P r := by
  by_cases e : c
  · rw [cif_pos e] at h
    exact ⟨e, h⟩
  · rw [cif_neg e] at h
    exact False.elim h
theorem rInt {C : Int → Int → Prop} {g : Int → Int → Int} {gp : PD → PD → R PD} (h0 : ∀ {a b : PD}, (∀ i j, a = .int i → b = .int j → False) → gp a b = .bad)
    (h1 : ∀ {i j : Int} {F M G H : Hp} {L : Env} {σ : St} {P : PD → Hp → Hp → Prop}, OkR K mg E F M G L H σ P (gp (.int i) (.int j)) → C i j ∧ OkR K mg E F M G L H σ P (.ok (.int (g i j)))) :
    R2X K mg E (rI C fun i j => .int (g i j)) gp := fun {F M G H σ L x y dx dy Q} lr hx hy q => by
  by_cases e : ∃ i j, dx = .int i ∧ dy = .int j
  · obtain ⟨i, j, e1, e2⟩ := e
    subst e1
    subst e2
    obtain ⟨hc, q⟩ := h1 q
    exact ⟨i, j, bres_int hx, bres_int hy, hc, OkR.here q lr _ (.int _)⟩
  · rw [h0 fun i j e1 e2 => e ⟨i, j, e1, e2⟩] at q
    exact False.elim q
theorem no_int {g : Int → Int → R PD} {gp : PD → PD → R PD} (h : ∀ a b, gp a b = (match a, b with | .int i, .int j => g i j | _, _ => .bad)) {a b : PD} (k : ∀ i j, a = .int i → b = .int j → False) : gp a b = .bad := by
  rw [h]
  cases a <;> cases b <;> first | rfl | exact (k _ _ rfl rfl).elim
theorem r_sub : R2X K mg E (rI0 fun i j => .int (i - j)) subP := fun {F M G H σ L x y dx dy Q} lr hx hy q => by
  cases dx with
  | int i =>
    cases dy with
    | int j => exact ⟨i, j, bres_int hx, bres_int hy, OkR.here q lr _ (.int _)⟩
    | _ => exact False.elim q
  | _ => exact False.elim (by cases dy <;> exact q)
abbrev rAdd : R2 := fun x y H Q => rI0 (fun i j => .int (i + j)) x y H Q ∨ ∃ i j, x = .str i ∧ y = .str j ∧ i.length + j.length ≤ sizeLine ∧ Q (.str (i ++ j)) H
theorem op_addX : OpR X (binaryOp .Add) rAdd := op_add.or op_add_str
theorem r_add : R2X K mg E rAdd addP := fun {F M G H σ L x y dx dy Q} lr hx hy q => by
  cases dx with
  | int i =>
    cases dy with
    | int j => exact .inl ⟨i, j, bres_int hx, bres_int hy, OkR.here q lr _ (.int _)⟩
    | _ => exact False.elim q
  | str i =>
    cases dy with
    | str j =>
      obtain ⟨h, q⟩ := ok_ite q
      exact .inr ⟨i, j, bres_str hx, bres_str hy, line_of h, OkR.here q lr _ (.str _)⟩
    | _ => exact False.elim q
  | _ => exact False.elim (by cases dy <;> exact q)
theorem r_mul : R2X K mg E (rI CMul fun i j => .int (i * j)) mulP := rInt (fun k => no_int (fun a b => by cases a <;> cases b <;> rfl) k) fun q => by
  obtain ⟨h, q⟩ := ok_ite q
  exact ⟨h, q⟩
theorem r_div : R2X K mg E (rI CDiv fun i j => .int (i / j)) divP := rInt (fun k => no_int (fun a b => by cases a <;> cases b <;> rfl) k) fun {i j F M G H L σ P} q => ok_ite (c := 0 < j ∧ j < 1073741824) q
theorem r_mod : R2X K mg E (rI (fun _ j => 0 < j) fun i j => .int (i % j)) modP := rInt (fun k => no_int (fun a b => by cases a <;> cases b <;> rfl) k) fun {i j F M G H L σ P} q => ok_ite (c := 0 < j) q
theorem r_pow : R2X K mg E (rI CPow fun i j => .int (i ^ j.toNat)) powP := rInt (fun k => no_int (fun a b => by cases a <;> cases b <;> rfl) k) fun {i j F M G H L σ P} q => ok_ite (c := 0 ≤ j ∧ j ≤ 1000000 ∧ i.natAbs < 2 ^ 64) q
theorem r_cat : R2F K mg E rCat catP := fun {F M G H σ L x y dx dy Q} lr hx hy q => by
  cases dx with
  | list a =>
    cases dy with
    | list b =>
      obtain ⟨h, q⟩ := ok_ite q
      obtain ⟨p1, xs, e1, h1, a1⟩ := bres_list lr.g hx
      obtain ⟨p2, ys, e2, h2, a2⟩ := bres_list lr.g hy
      refine ⟨p1, p2, xs, ys, e1, e2, h1, h2, by rw [dpAll_len a1, dpAll_len a2]; exact line_of h, fun p np => ?_⟩
      obtain ⟨lr2, hh, gp, fp, mp⟩ := lr.newM (o := .lst (xs ++ ys)) np
      exact q _ _ (Same.refl _) hh lr2 _ ⟨p, _, rfl, gp, fp, mp, upd_same, dpAll_app a1 a2⟩
    | _ => exact False.elim q
  | _ => exact False.elim (by cases dy <;> exact q)
theorem r_rep : R2F K mg E rRep repP := fun {F M G H σ L x y dx dy Q} lr hx hy q => by
  cases dx with
  | list a =>
    cases dy with
    | int k =>
      obtain ⟨⟨h1, h2, h3⟩, q⟩ := ok_ite q
      obtain ⟨p1, xs, e1, hp, a1⟩ := bres_list lr.g hx
      have hk : k.toNat ≤ 1000 := by omega
      refine ⟨p1, k, xs, e1, bres_int hy, hp, by omega, by omega, ?_, fun p np => ?_⟩
      · rw [dpAll_len a1]
        exact line_of (Nat.le_trans (Nat.mul_le_mul h3 hk) (by decide))
      · obtain ⟨lr2, hh, gp, fp, mp⟩ := lr.newM (o := .lst (List.replicate k.toNat xs).flatten) np
        exact q _ _ (Same.refl _) hh lr2 _ ⟨p, _, rfl, gp, fp, mp, upd_same, dpAll_rep a1 _⟩
    | _ => exact False.elim q
  | _ => exact False.elim (by cases dy <;> exact q)
theorem r_cmp {p : Int → Int → Bool} : R2T K mg E (rI0 fun i j => .bl (p i j)) (cmpP p) := fun {F M G H σ L x y dx dy Q} lr hx hy q => by
  cases dx with
  | int i =>
    cases dy with
    | int j => exact ⟨i, j, bres_int hx, bres_int hy, OkR.here q lr⟩
    | _ => exact False.elim q
  | _ => exact False.elim (by cases dy <;> exact q)
theorem r_eq : R2T K mg E (rEqD K) eqP := fun {F M G H σ L x y dx dy Q} lr hx hy q => by
  obtain ⟨⟨h1, h2⟩, q⟩ := ok_ite q
  exact ⟨dx, dy, dq_dp _ _ h1 (bres_dp lr.g hx), dq_dp _ _ h2 (bres_dp lr.g hy), h1, h2, OkR.here q lr⟩
theorem r_ne : R2T K mg E (rNeD K) neP := fun {F M G H σ L x y dx dy Q} lr hx hy q => by
  obtain ⟨⟨h1, h2⟩, q⟩ := ok_ite q
  exact ⟨dx, dy, dq_dp _ _ h1 (bres_dp lr.g hx), dq_dp _ _ h2 (bres_dp lr.g hy), h1, h2, OkR.here q lr⟩
theorem isNon_of {G H : Hp} {v : V} {d : PD} (h : BRes K G H v d) : decide (v = .non) = isNon d := by
  rcases h with h | ⟨a, xs, ds, e1, e2, _⟩
  · cases h <;> first | rfl | (exact decide_eq_false fun z => by cases z)
  · subst e1
    subst e2
    exact decide_eq_false fun z => by cases z
theorem r_isN : R2T K mg E (fun x y H Q => y = .non ∧ Q (.bl (decide (x = .non))) H) isNP := fun {F M G H σ L x y dx dy Q} lr hx hy q => by
  cases dy with
  | none =>
    refine ⟨bres_non hy, ?_⟩
    rw [isNon_of hx]
    exact OkR.here q lr
  | _ => exact False.elim (by cases dx <;> exact q)
theorem r_notN : R2T K mg E (fun x y H Q => y = .non ∧ Q (.bl (!decide (x = .non))) H) notNP := fun {F M G H σ L x y dx dy Q} lr hx hy q => by
  cases dy with
  | none =>
    refine ⟨bres_non hy, ?_⟩
    rw [isNon_of hx]
    exact OkR.here q lr
  | _ => exact False.elim (by cases dx <;> exact q)
theorem r_isB : R2T K mg E rIsB isBP := fun {F M G H σ L x y dx dy Q} lr hx hy q => by
  cases dx with
  | bool i =>
    cases dy with
    | bool j => exact ⟨i, j, bres_bl hx, bres_bl hy, OkR.here q lr⟩
    | _ => exact False.elim q
  | _ => exact False.elim (by cases dy <;> exact q)
def flV : PD → V
  | .bool b => .bl b
  | .int i => .int i
  | .str z => .str z
  | _ => .non
theorem flat_of {G : Hp} {v : V} {d : PD} (h : Dq K G v d) (f : flatP d = true) : v = flV d := by
  cases h <;> first | rfl | cases f
theorem flatV_of {d : PD} (f : flatP d = true) : flatV (flV d) = true := by
  cases d <;> first | rfl | cases f
theorem eqV_of {a b : PD} (fa : flatP a = true) (fb : flatP b = true) : eqV (flV a) (flV b) = PyData.eqv a b := by
  cases a <;> first | (cases fa; done) | (cases b <;> first | (cases fb; done) | simp [eqV, flV, PyData.eqv])
theorem all_flat {G : Hp} : ∀ {ds : List PD} {vs : List V}, DqAll K G vs ds → ds.all flatP = true → vs = ds.map flV ∧ vs.all flatV = true
  | [], _, h, _ => by cases h; exact ⟨rfl, rfl⟩
  | d :: ds, _, h, f => by
    cases h with
    | cons a b =>
      rw [List.all_cons, Bool.and_eq_true] at f
      obtain ⟨e1, e2⟩ := all_flat b f.2
      rw [flat_of a f.1, e1]
      refine ⟨rfl, ?_⟩
      rw [List.all_cons, flatV_of f.1, ← e1, e2]
      rfl
theorem any_flat {x : PD} (fx : flatP x = true) : ∀ {ds : List PD}, ds.all flatP = true → inV (flV x) (ds.map flV) = ds.any fun z => PyData.eqv z x
  | [], _ => rfl
  | d :: ds, f => by
    rw [List.all_cons, Bool.and_eq_true] at f
    unfold inV
    rw [List.map_cons, List.any_cons, List.any_cons, eqV_of f.1 fx]
    exact congrArg _ (any_flat fx f.2)
abbrev rInX (K : PySem.W.Frag) : R2 := fun x y H Q => rInD K x y H Q ∨ (rIn K false x y H Q ∨ ∃ (c : Nat) (z : Str), x = .str ⟨#[c]⟩ ∧ y = .str z ∧ Q (.bl (decide (c ∈ z.cps.toList))) H)
abbrev rNiX (K : PySem.W.Frag) : R2 := fun x y H Q => rNotInD K x y H Q ∨ (rIn K true x y H Q ∨ ∃ (c : Nat) (z : Str), x = .str ⟨#[c]⟩ ∧ y = .str z ∧ Q (.bl (!decide (c ∈ z.cps.toList))) H)
theorem op_inX (hu : X.A.units + 65 < cLine) : OpR X (compareOp .In) (rInX X.K) := (op_inD hu).or (op_in_seq.or op_in_sign)
theorem op_niX (hu : X.A.units + 65 < cLine) : OpR X (compareOp .NotIn) (rNiX X.K) := (op_notInD hu).or (op_notIn_seq.or op_notIn_sign)
theorem dp_list {G : Hp} {a : Addr} {xs : List V} {ds : List PD} (h : G a = some (.lst xs)) (k : DqAll K G xs ds) : Dq K G (.ref a) (.list ds) := .lst h k
theorem in_str {F M G H : Hp} {L : Env} {σ : St} {P : Bool → Hp → Hp → Prop} {neg : Bool} {dx : PD} {z : Str} (q : OkR K mg E F M G L H σ P (inP neg dx (.str z))) :
    ∃ c, dx = .str ⟨#[c]⟩ ∧ OkR K mg E F M G L H σ P (.ok (if neg = true then !decide (c ∈ z.cps.toList) else decide (c ∈ z.cps.toList))) := by
  unfold inP at q
  split at q
  · rename_i h; cases h
  · rename_i h; cases h
  · rename_i c z' h
    cases h
    exact ⟨c, rfl, q⟩
  · exact False.elim q
theorem r_in : R2T K mg E (rInX K) (inP false) := fun {F M G H σ L x y dx dy Q} lr hx hy q => by
  cases dy with
  | list ds =>
    obtain ⟨⟨h1, h2⟩, q⟩ := ok_ite q
    exact .inl ⟨dx, ds, dq_dp _ _ h1 (bres_dp lr.g hx), dq_dp _ _ h2 (bres_dp lr.g hy), h1, h2, OkR.here q lr⟩
  | tuple ds =>
    obtain ⟨⟨h1, h2⟩, q⟩ := ok_ite q
    obtain ⟨p, xs, e, hp, ha⟩ := bres_tuple lr.g hy
    obtain ⟨e1, e2⟩ := all_flat ha h2
    have ex := flat_of (bres_dp lr.g hx) h1
    refine .inr (.inl ⟨p, xs, e, .inr (SqT.of hp), by rw [ex]; exact flatV_of h1, e2, ?_⟩)
    rw [ex, e1, any_flat h1 h2]
    exact OkR.here q lr
  | str z =>
    obtain ⟨c, e, q⟩ := in_str q
    subst e
    exact .inr (.inr ⟨c, z, bres_str hx, bres_str hy, OkR.here q lr⟩)
  | _ => exact False.elim (by unfold inP at q; split at q <;> first | exact q | (rename_i h; cases h))
theorem r_ni : R2T K mg E (rNiX K) (inP true) := fun {F M G H σ L x y dx dy Q} lr hx hy q => by
  cases dy with
  | list ds =>
    obtain ⟨⟨h1, h2⟩, q⟩ := ok_ite q
    exact .inl ⟨dx, ds, dq_dp _ _ h1 (bres_dp lr.g hx), dq_dp _ _ h2 (bres_dp lr.g hy), h1, h2, OkR.here q lr⟩
  | tuple ds =>
    obtain ⟨⟨h1, h2⟩, q⟩ := ok_ite q
    obtain ⟨p, xs, e, hp, ha⟩ := bres_tuple lr.g hy
    obtain ⟨e1, e2⟩ := all_flat ha h2
    have ex := flat_of (bres_dp lr.g hx) h1
    refine .inr (.inl ⟨p, xs, e, .inr (SqT.of hp), by rw [ex]; exact flatV_of h1, e2, ?_⟩)
    rw [ex, e1, any_flat h1 h2]
    exact OkR.here q lr
  | str z =>
    obtain ⟨c, e, q⟩ := in_str q
    subst e
    exact .inr (.inr ⟨c, z, bres_str hx, bres_str hy, OkR.here q lr⟩)
  | _ => exact False.elim (by unfold inP at q; split at q <;> first | exact q | (rename_i h; cases h))
theorem ofO_ok {F M G H : Hp} {L : Env} {σ : St} {P : PD → Hp → Hp → Prop} {α : Type} {f : α → PD} {o : Option α} (q : OkR K mg E F M G L H σ P (ofO f o)) : ∃ a, o = some a ∧ OkR K mg E F M G L H σ P (.ok (f a)) := by
  cases o with
  | none => exact False.elim q
  | some a => exact ⟨a, rfl, q⟩
theorem at_all {G : Hp} {ds : List PD} {vs : List V} {i : Int} {d : PD} (h : DqAll K G vs ds) (e : atI ds i = some d) : ∃ v, atI vs i = some v ∧ Dq K G v d := by
  unfold atI at e ⊢
  rw [dpAll_len h]
  cases q : ixN ds.length i with
  | none => rw [q] at e; cases e
  | some j =>
    rw [q] at e
    exact dpAll_get h e
theorem at_map {ns : List Int} {i : Int} {d : PD} (e : atI (ns.map PyData.int) i = some d) : ∃ n, d = .int n ∧ atI (ns.map V.int) i = some (.int n) := by
  unfold atI at e ⊢
  rw [List.length_map] at e ⊢
  cases q : ixN ns.length i with
  | none => rw [q] at e; cases e
  | some j =>
    rw [q] at e
    have e : (ns.map PyData.int)[j]? = some d := e
    show ∃ n, d = .int n ∧ (ns.map V.int)[j]? = some (.int n)
    rw [List.getElem?_map] at e ⊢
    cases q2 : ns[j]? with
    | none => rw [q2] at e; cases e
    | some n =>
      rw [q2] at e
      cases e
      exact ⟨n, rfl, rfl⟩
theorem r_ix : R2X K mg E (rIx K) ixP := fun {F M G H σ L x y dx dy Q} lr hx hy q => by
  unfold ixP at q
  split at q
  · rename_i ds i
    obtain ⟨d, e, q⟩ := ofO_ok q
    obtain ⟨p, xs, e1, hp, ha⟩ := bres_list lr.g hx
    obtain ⟨v, hv, hd⟩ := at_all ha e
    exact .inl ⟨p, xs, i, v, e1, bres_int hy, SqL.of hp, hv, OkR.here q lr v hd⟩
  · rename_i ds i
    obtain ⟨d, e, q⟩ := ofO_ok q
    obtain ⟨p, xs, e1, hp, ha⟩ := bres_tuple lr.g hx
    obtain ⟨v, hv, hd⟩ := at_all ha e
    exact .inr (.inl ⟨p, xs, i, v, e1, bres_int hy, SqT.of hp, hv, OkR.here q lr v hd⟩)
  · rename_i z i
    obtain ⟨h, q⟩ := ok_ite q
    obtain ⟨c, e, q⟩ := ofO_ok q
    exact .inr (.inr ⟨z, i, c, bres_str hx, bres_int hy, line_of h, e, OkR.here q lr _ (.str _)⟩)
  · rename_i ms i
    obtain ⟨d, e, q⟩ := ofO_ok q
    rcases hx with hx | ⟨a, xs, es, e1, e2, _⟩
    · cases hx with
      | scr hs =>
        rename_i a ns
        obtain ⟨n, e1, e2⟩ := at_map e
        subst e1
        exact .inl ⟨a, _, i, .int n, rfl, bres_int hy, sqL_mono lr.g hs, e2, OkR.here q lr _ (.int n)⟩
    · cases e2
  · exact False.elim q
theorem r_len : R1X K mg E (fun xs H Q => ∃ x n, xs = [x] ∧ LenV K x H n ∧ Q (.int n) H) lenP := fun {F M G H σ L x dx Q} lr hx q => by
  unfold lenP at q
  split at q
  · obtain ⟨p, xs, e1, hp, ha⟩ := bres_list lr.g hx
    subst e1
    exact ⟨_, xs.length, rfl, .inl ⟨xs, SqL.of hp, rfl⟩, by rw [dpAll_len ha]; exact OkR.here q lr _ (.int _)⟩
  · obtain ⟨p, xs, e1, hp, ha⟩ := bres_tuple lr.g hx
    subst e1
    exact ⟨_, xs.length, rfl, .inr ⟨xs, SqT.of hp, rfl⟩, by rw [dpAll_len ha]; exact OkR.here q lr _ (.int _)⟩
  · rename_i z
    obtain ⟨h, q⟩ := ok_ite q
    rw [bres_str hx]
    exact ⟨_, z.length, rfl, ⟨line_of h, rfl⟩, OkR.here q lr _ (.int _)⟩
  · rcases hx with hx | ⟨a, xs, es, e1, e2, _⟩
    · cases hx with
      | scr hs =>
        rename_i a ns
        refine ⟨_, ns.length, rfl, .inl ⟨_, sqL_mono lr.g hs, by rw [List.length_map]⟩, ?_⟩
        rw [List.length_map] at q
        exact OkR.here q lr _ (.int _)
    · cases e2
  · exact False.elim q
theorem r_list : R1F K mg E (fun xs H Q => ∃ p ys, xs = [.ref p] ∧ (SqL K H p ys ∨ SqT K H p ys) ∧ ∀ l, H l = none → Q (.ref l) (upd H l (.lst ys))) listP := fun {F M G H σ L x dx Q} lr hx q => by
  unfold listP at q
  split at q
  · obtain ⟨p, xs, e1, hp, ha⟩ := bres_list lr.g hx
    subst e1
    refine ⟨p, xs, rfl, .inl (SqL.of hp), fun l nl => ?_⟩
    obtain ⟨lr2, hh, gp, fp, mp⟩ := lr.newM (o := .lst xs) nl
    exact q _ _ (Same.refl _) hh lr2 _ ⟨l, _, rfl, gp, fp, mp, upd_same, ha⟩
  · obtain ⟨p, xs, e1, hp, ha⟩ := bres_tuple lr.g hx
    subst e1
    refine ⟨p, xs, rfl, .inr (SqT.of hp), fun l nl => ?_⟩
    obtain ⟨lr2, hh, gp, fp, mp⟩ := lr.newM (o := .lst xs) nl
    exact q _ _ (Same.refl _) hh lr2 _ ⟨l, _, rfl, gp, fp, mp, upd_same, ha⟩
  · exact False.elim q
theorem r_abs : R1X K mg E (fun xs H Q => ∃ i, xs = [.int i] ∧ Q (.int (if i < 0 then -i else i)) H) absP := fun {F M G H σ L x dx Q} lr hx q => by
  cases dx with
  | int i =>
    rw [bres_int hx]
    exact ⟨i, rfl, OkR.here q lr _ (.int _)⟩
  | _ => exact False.elim q
abbrev rIntX : List V → Hp → VK → Prop := fun xs H Q => ((∃ i, xs = [.int i] ∧ Q (.int i) H) ∨ ∃ k, xs = [.bl k] ∧ Q (.int (if k then 1 else 0)) H) ∨ ∃ a n, xs = [.str a] ∧ PySem.intText? a = some n ∧ a.length ≤ 640 ∧ Q (.int n) H
theorem call_intX : CallR X (.type "int") rIntX := call_int1.or call_int_str
theorem r_int : R1X K mg E rIntX intP := fun {F M G H σ L x dx Q} lr hx q => by
  cases dx with
  | int i =>
    rw [bres_int hx]
    exact .inl (.inl ⟨i, rfl, OkR.here q lr _ (.int _)⟩)
  | bool i =>
    rw [bres_bl hx]
    exact .inl (.inr ⟨i, rfl, OkR.here q lr _ (.int _)⟩)
  | str a =>
    rw [bres_str hx]
    have q' : OkR K mg E F M G L H σ (fun d G2 H2 => ∀ v, Dq K G2 v d → Q v H2) (match PySem.intText? a with
    | some n => cif (a.length ≤ 640) (.ok (.int n)) .bad
    | none => .bad) := q
    cases e : PySem.intText? a with
    | none =>
      rw [e] at q'
      exact False.elim q'
    | some n =>
      rw [e] at q'
      obtain ⟨h, q'⟩ := ok_ite q'
      exact .inr ⟨a, n, rfl, e, h, OkR.here q' lr _ (.int _)⟩
  | _ => exact False.elim q
theorem r_str : R1X K mg E (fun xs H Q => ∃ i, xs = [.int i] ∧ i.natAbs.log2 < 1920 ∧ Q (.str (toString i)) H) strP := fun {F M G H σ L x dx Q} lr hx q => by
  cases dx with
  | int i =>
    rw [bres_int hx]
    obtain ⟨h, q⟩ := ok_ite q
    exact ⟨i, rfl, h, OkR.here q lr _ (.str _)⟩
  | _ => exact False.elim q
theorem ty_of {G H : Hp} {v : V} {d : PD} (g : Same G H) (h : BRes K G H v d) (n : tyN d ≠ "") : TyX K H v (.type (tyN d)) := by
  have k := bres_dp g h
  cases k with
  | non => exact .base .non
  | bl b => exact .base (.bl b)
  | int i => exact .base (.int i)
  | str z => exact .base (.str z)
  | lst q a => exact .base (.lst q)
  | tup q a => exact .base (.tup q)
  | scr q => exact absurd rfl n
  | book c q l a => exact absurd rfl n
end
section
variable {X : Cx} {E : XK} {a b c : Expr} {fa fb : Env → R PD} {pos p : Pos}
theorem xe_neg (ha : XB X E a fa) : XE X E (.UnaryOp .USub a pos) (op1 negP fa) :=
  peW (pe_un un_neg ha) fun σ H Q ⟨F, M, G, L, lr, q⟩ => ⟨F, M, G, L, lr, (OkR.seq q).imp fun d G2 H2 _ _ _ lr2 p v hv => by
    cases d with
    | int i =>
      rw [bres_int hv]
      exact ⟨i, rfl, OkR.here p lr2 _ (.int _)⟩
    | _ => exact False.elim p⟩
theorem xe_ix (ha : XB X E a fa) (hb : XB X E b fb) (hs : PlainIx b := by exact fun _ _ => rfl) : XE X E (.Subscript a b pos) (op2 ixP fa fb) :=
  peW (pe_ix ix_seq ha hb hs) fun σ H Q ⟨F, M, G, L, lr, q⟩ => two lr q fun lr1 _ _ hx hy p => r_ix lr1 hx hy p
/-- f(a), T(a), built in -/
theorem xe_B {x : Str} {id : String} {r : List V → Hp → VK → Prop} {g : PD → R PD} (hc : CallR X (.builtin id) r) (rule : R1X X.K X.mg E r g) (hg : Gl X x) (hm : X.mg x = none) (hv : bootBuiltins x = some (.builtin id)) (ha : XB X E a fa) (hn : x ≠ "__name__" := by decide)
    (hdb : (x == ("__debug__" : Str)) = false := by decide) (hs : starEach [a] X.env = (false, eval a X.env) :: starEach [] X.env := by rfl) (hpl : (backTo pos (starEach [] X.env)).any (·.1) = false := by rfl) : XE X E (.Call (.Name x p) [a] [] pos) (op1 g fa) :=
  peW (pe_callB hc hg hm hv (pa_cons ha pa_nil hs) hn hdb hs hpl) fun σ H Q ⟨F, M, G, L, lr, q⟩ => ⟨F, M, G, L, lr, (OkR.seq q).imp fun d G2 H2 _ _ _ lr2 p v hv => rule lr2 hv p⟩
theorem xe_Ty {x : Str} {T : String} {r : List V → Hp → VK → Prop} {g : PD → R PD} (hc : CallR X (.type T) r) (rule : R1X X.K X.mg E r g) (hg : Gl X x) (hm : X.mg x = none) (hv : bootBuiltins x = some (.type T)) (ha : XB X E a fa) (hn : x ≠ "__name__" := by decide)
    (hdb : (x == ("__debug__" : Str)) = false := by decide) (hs : starEach [a] X.env = (false, eval a X.env) :: starEach [] X.env := by rfl) (hpl : (backTo pos (starEach [] X.env)).any (·.1) = false := by rfl) : XE X E (.Call (.Name x p) [a] [] pos) (op1 g fa) :=
  peW (pe_callTy hc hg hm hv (pa_cons ha pa_nil hs) hn hdb hs hpl) fun σ H Q ⟨F, M, G, L, lr, q⟩ => ⟨F, M, G, L, lr, (OkR.seq q).imp fun d G2 H2 _ _ _ lr2 p v hv => rule lr2 hv p⟩
theorem xf_Ty {x : Str} {T : String} {r : List V → Hp → VK → Prop} {g : PD → R D} (hc : CallR X (.type T) r) (rule : R1F X.K X.mg E r g) (hg : Gl X x) (hm : X.mg x = none) (hv : bootBuiltins x = some (.type T)) (ha : XB X E a fa) (hn : x ≠ "__name__" := by decide)
    (hdb : (x == ("__debug__" : Str)) = false := by decide) (hs : starEach [a] X.env = (false, eval a X.env) :: starEach [] X.env := by rfl) (hpl : (backTo pos (starEach [] X.env)).any (·.1) = false := by rfl) : XF X E (.Call (.Name x p) [a] [] pos) (op1 g fa) :=
  peW (pe_callTy hc hg hm hv (pa_cons ha pa_nil hs) hn hdb hs hpl) fun σ H Q ⟨F, M, G, L, lr, q⟩ => ⟨F, M, G, L, lr, (OkR.seq q).imp fun d G2 H2 _ _ _ lr2 p v hv => rule lr2 hv p⟩
/-- isinstance(a, T), T a built-in class -/
theorem xe_isi {x y : Str} {T : String} {p2 : Pos} (hg : Gl X x) (hm : X.mg x = none) (hv : bootBuiltins x = some (.builtin "isinstance")) (hgy : Gl X y) (hmy : X.mg y = none) (hvy : bootBuiltins y = some (.type T)) (ha : XB X E a fa) (hn : x ≠ "__name__" := by decide)
    (hny : y ≠ "__name__" := by decide) (hdy : (y == ("__debug__" : Str)) = false := by decide) (hdb : (x == ("__debug__" : Str)) = false := by decide)
    (hs : starEach [a, .Name y p2] X.env = (false, eval a X.env) :: starEach [.Name y p2] X.env := by rfl) (hs2 : starEach [.Name y p2] X.env = (false, eval (.Name y p2) X.env) :: starEach [] X.env := by rfl)
    (hpl : (backTo pos (starEach [.Name y p2] X.env)).any (·.1) = false := by rfl) : XE X E (.Call (.Name x p) [a, .Name y p2] [] pos) (op1 (isiP T) fa) :=
  peW (pe_callB call_isi hg hm hv (pa_cons ha (pa_cons (pe_bltn (v := .ty T) hgy hmy hvy rfl hny hdy) pa_nil hs2) hs) hn hdb hs hpl) fun σ H Q ⟨F, M, G, L, lr, q⟩ => ⟨F, M, G, L, lr, (OkR.seq q).imp fun d G2 H2 _ _ _ lr2 p v hv => by
    have n : tyN d ≠ "" ∧ OkR X.K X.mg E F M G2 L H2 σ (fun d G2 H2 => ∀ v, Dq X.K G2 v d → Q v H2) (isiQ T (tyN d)) := by
      cases d with
      | dict _ => exact False.elim p
      | _ => exact ⟨fun z => by simp [tyN] at z, p⟩
    obtain ⟨n, p⟩ := n
    unfold isiQ at p
    cases e : kitB (tyN d) T with
    | none => rw [e] at p; exact False.elim p
    | some k =>
      rw [e] at p
      exact ⟨v, .ty T, _, _, k, rfl, .ty T, ty_of lr2.g hv n, kit_ty e, OkR.here p lr2 _ (.bl k)⟩⟩
/-- parts -/
def partE (f : Env → R PD) : Env → R (Option Int) := fun L => (f L).bind fun d => match d with
  | .int i => .ok (some i)
  | _ => .bad
def noPart : Env → R (Option Int) := fun _ => .ok none
theorem xo_none : XO X E none noPart := poW po_none fun σ H Q ⟨F, M, G, L, lr, q⟩ => OkR.here q lr
theorem xo_some (ha : XB X E a fa) : XO X E (some a) (partE fa) := poW (po_some ha) fun σ H Q ⟨F, M, G, L, lr, q⟩ => ⟨F, M, G, L, lr, (OkR.seq q).imp fun d G2 H2 _ _ _ lr2 p v hv => by
    cases d with
    | int i =>
      rw [bres_int hv]
      exact ⟨i, rfl, OkR.here p lr2⟩
    | _ => exact False.elim p⟩
def sliceL (fa : Env → R PD) (fl fh : Env → R (Option Int)) : Env → R D := fun L => (fa L).bind fun d => (fl L).bind fun lo => (fh L).bind fun hi => match d with
  | .list ds => .ok (.own (cutP ds lo hi))
  | _ => .bad
def sliceS (fa : Env → R PD) (fl fh : Env → R (Option Int)) : Env → R PD := fun L => (fa L).bind fun d => (fl L).bind fun lo => (fh L).bind fun hi => match d with
  | .str z => cif (z.length ≤ 1000000) (.ok (.str (cutS z lo hi))) .bad
  | _ => .bad
variable {lo hi : Option Expr} {fl fh : Env → R (Option Int)} {p2 : Pos}
theorem xf_slice (ha : XB X E a fa) (hl : XO X E lo fl) (hh : XO X E hi fh) : XF X E (.Subscript a (.Slice lo hi none p2) pos) (sliceL fa fl fh) :=
  peW (pe_slice sl_list ha hl hh) fun σ H Q ⟨F, M, G, L, lr, q⟩ => ⟨F, M, G, L, lr, (OkR.seq q).imp fun d G1 H1 _ _ _ lr1 p1 v hv => ⟨F, M, G1, L, lr1, (OkR.seq p1).imp fun l G2 H2 _ e1 e2 lr2 p2 => ⟨F, M, G2, L, lr2, (OkR.seq p2).imp fun u G3 H3 _ e3 e4 lr3 p3 => by
    cases d with
    | list ds =>
      obtain ⟨a, xs, ev, hp, ha⟩ := bres_list lr1.g hv
      refine ⟨a, xs, ev, SqL.of (e4 _ _ (e2 _ _ hp)), fun z nz => ?_⟩
      obtain ⟨lr4, hh, gp, fp, mp⟩ := lr3.newM (o := .lst (cutV xs l u)) nz
      refine p3 _ _ (Same.refl _) hh lr4 _ ⟨z, _, rfl, gp, fp, mp, upd_same, ?_⟩
      unfold cutV cutP
      rw [dpAll_len ha]
      exact dpAll_take _ (dpAll_drop _ (dpAll_mono (e1.trans e3) _ _ ha))
    | _ => exact False.elim p3⟩⟩⟩
theorem xe_sliceS (ha : XB X E a fa) (hl : XO X E lo fl) (hh : XO X E hi fh) : XE X E (.Subscript a (.Slice lo hi none p2) pos) (sliceS fa fl fh) :=
  peW (pe_slice sl_str ha hl hh) fun σ H Q ⟨F, M, G, L, lr, q⟩ => ⟨F, M, G, L, lr, (OkR.seq q).imp fun d G1 H1 _ _ _ lr1 p1 v hv => ⟨F, M, G1, L, lr1, (OkR.seq p1).imp fun l G2 H2 _ e1 e2 lr2 p2 => ⟨F, M, G2, L, lr2, (OkR.seq p2).imp fun u G3 H3 _ e3 e4 lr3 p3 => by
    cases d with
    | str z =>
      obtain ⟨h, p3⟩ := ok_ite p3
      exact ⟨z, bres_str hv, line_of h, OkR.here p3 lr3 _ (.str _)⟩
    | _ => exact False.elim p3⟩⟩⟩
end
end
end Px
namespace Px
open PySem L2
noncomputable section
abbrev noHp : Hp := fun _ => none
def OkC (K : PySem.W.Frag) (mg : Str → Option Value) (E : XK) (F G : Hp) (Q : VK) : R D → Prop
  | .ok d => ∀ v G' H', Same G G' → Same F H' → Same G' H' → (∀ a o, F a = some o → G' a = none) → DRes K F noHp G' H' v d → Q v H'
  | .exc c => ∀ a H', mg c = some (.ref a) → Same F H' → Same G H' → E (.ref a) none H'
  | .bad => False
def spF (K : PySem.W.Frag) (mg : Str → Option Value) (n : Nat) (fc : List PD → R D) : Sp := fun vs H Q E =>
  ∃ F G ds, Same F H ∧ Same G H ∧ (∀ a o, F a = some o → G a = none) ∧ DqAll K G vs ds ∧ ds.length = n ∧ OkC K mg E F G Q (fc ds)
def OkS (K : PySem.W.Frag) (mg : Str → Option Value) (E : XK) (F G : Hp) (D : Ends) : Out → Prop
  | .next L => ∀ σ M G' H', Same G G' → LR K F M G' H' σ L → D.nx σ H'
  | .ret d => ∀ v G' H', Same G G' → Same F H' → Same G' H' → (∀ a o, F a = some o → G' a = none) → DRes K F noHp G' H' v d → D.rt v H'
  | .brk L => ∀ σ M G' H', Same G G' → LR K F M G' H' σ L → D.bk σ H'
  | .ct L => ∀ σ M G' H', Same G G' → LR K F M G' H' σ L → D.ct σ H'
  | .exc c => ∀ a H', mg c = some (.ref a) → Same F H' → Same G H' → E (.ref a) none H'
  | .bad => False
def tS (K : PySem.W.Frag) (mg : Str → Option Value) (E : XK) (g : Env → Out) : TS := fun D σ H => ∃ F M G L, LR K F M G H σ L ∧ OkS K mg E F G D (g L)
abbrev XS (X : Cx) (E : XK) (s : Stmt) (g : Env → Out) : Prop := PS X s (tS X.K X.mg E g)
abbrev XSs (X : Cx) (E : XK) (s : List Stmt) (g : Env → Out) : Prop := PSs X s (tS X.K X.mg E g)
def R.out {α : Type} : R α → (α → Out) → Out
  | .ok a, k => k a
  | .exc c, _ => .exc c
  | .bad, _ => .bad
section
variable {K : PySem.W.Frag} {mg : Str → Option Value} {E : XK} {F M G G2 H H2 : Hp} {L : Env} {σ : St} {D : Ends} {α : Type}
theorem OkS.mono (e : Same G G2) : ∀ {r : Out}, OkS K mg E F G D r → OkS K mg E F G2 D r
  | .next L, h => fun σ M G' H' e1 lr => h σ M G' H' (e.trans e1) lr
  | .ret d, h => fun v G' H' e1 f g fg r => h v G' H' (e.trans e1) f g fg r
  | .brk L, h => fun σ M G' H' e1 lr => h σ M G' H' (e.trans e1) lr
  | .ct L, h => fun σ M G' H' e1 lr => h σ M G' H' (e.trans e1) lr
  | .exc c, h => fun a H' e1 f g => h a H' e1 f (e.trans g)
  | .bad, h => h
theorem OkS.of {k : α → Out} : ∀ {r : R α}, OkS K mg E F G D (r.out k) → OkR K mg E F M G L H σ (fun a G2 H2 => OkS K mg E F G2 D (k a)) r
  | .ok a, h => fun G2 H2 e1 e2 lr => OkS.mono e1 h
  | .exc c, h => fun a H' e1 f g => h a H' e1 f g
  | .bad, h => h
theorem dres_noM {v : V} : ∀ {d : Px.D}, DRes K F M G H v d → DRes K F noHp G H v d
  | .val d, h => h
  | .own ds, ⟨p, xs, a, b, c, _, e, f⟩ => ⟨p, xs, a, b, c, rfl, e, f⟩
  | .dic ds, ⟨p, xs, a, b, c, _, e, f⟩ => ⟨p, xs, a, b, c, rfl, e, f⟩
end
/-- what a body's rules lean on -/
structure Ctx (X : Cx) (E : XK) (k : Nat) : Prop where
  room : Room k X.A
  pass : Passes (L2.CX X.prog X.w) X E
  calm : X.calm = true
  own : PassesOwn (model X.prog X.w) X.A X.env X.xe
def restOf (G H : Hp) : Hp := fun a => if G a = none then H a else none
section
variable {X : Cx} {E : XK} {a b c : Expr} {fa fb : Env → R PD} {pos p : Pos} {es : List Expr}
def callE (fc : List PD → R D) (fs : Env → R (List PD)) : Env → R D := fun L => (fs L).bind fc
theorem xf_call {k j n : Nat} {f : Addr} {fd : FuncData} {ps : List Str} {x : Str} {fc : List PD → R D} {fs : Env → R (List PD)} (C : Ctx X E k) (Fk : FnOk X.prog X.w X.K X.mg X.base (L2.CX X.prog X.w) j f fd ps (spF X.K X.mg n fc)) (hj : j ≤ k) (hn : ∀ ds, ds.length ≠ n → fc ds = .bad)
    (hm : X.mg x = some (.ref f)) (hk : PySem.W.keepIn X.K (.ref f) = true) (hb : Binds X.K fd ps []) (ha : XA X E (a :: es) fs) (hg : Gl X x := by rfl) (hdb : (x == ("__debug__" : Str)) = false := by decide)
    (he : starEach (a :: es) X.env = (false, eval a X.env) :: starEach es X.env := by rfl) (hpl : (backTo pos (starEach es X.env)).any (·.1) = false := by rfl) : XF X E (.Call (.Name x p) (a :: es) [] pos) (callE fc fs) :=
  peW (pe_call Fk (C.room.mono hj) hg hm hk hb .nil C.pass ha hdb he hpl) fun σ H Q ⟨F, M, G, L, lr, q⟩ => ⟨F, M, G, L, lr, (OkR.seq q).imp fun ds G1 H1 _ _ _ lr1 p vs hvs => by
    have hlen : ds.length = n := by
      by_cases e : ds.length = n
      · exact e
      · rw [hn ds e] at p
        exact False.elim p
    show spF X.K X.mg n fc (vs ++ []) H1 Q E
    rw [List.append_nil]
    have fr : ∀ a o, restOf G1 H1 a = some o → G1 a = none := fun a o e => by
      unfold restOf at e
      split at e
      · assumption
      · cases e
    have sf : Same (restOf G1 H1) H1 := fun a o e => by
      unfold restOf at e
      split at e
      · exact e
      · cases e
    have inR : ∀ {a o}, G1 a = none → H1 a = some o → restOf G1 H1 a = some o := fun {a o} e h => by
      unfold restOf
      rw [if_pos e]
      exact h
    refine ⟨restOf G1 H1, G1, ds, sf, lr1.g, fr, hvs, hlen, ?_⟩
    cases e : fc ds with
    | ok d =>
      rw [e] at p
      intro v G' H' g1 f1 g2 fg hv
      have sf' : ∀ {A : Hp}, Same A H1 → (∀ a o, A a = some o → G1 a = none) → Same A H' := fun {A} s d b o h => f1 b o (inR (d b o h) (s b o h))
      have all : Same H1 H' := fun b o h => by
        cases e2 : G1 b with
        | none => exact f1 b o (inR e2 h)
        | some u =>
          have e3 := lr1.g _ _ e2
          rw [h] at e3
          cases e3
          exact g2 _ _ (g1 _ _ e2)
      have lr2 : LR X.K F M G' H' σ L := lr1.mono g1 g2 (sf' lr1.f lr1.fg) (sf' lr1.m lr1.mg) (fun b o h => fg b o (inR (lr1.fg b o h) (lr1.f b o h))) (fun b o h => fg b o (inR (lr1.mg b o h) (lr1.m b o h)))
      have notIn : ∀ {A : Hp} {b : Addr}, Same A H1 → (∀ a o, A a = some o → G1 a = none) → restOf G1 H1 b = none → A b = none := fun {A b} s d h => by
        cases e2 : A b with
        | none => rfl
        | some o =>
          rw [inR (d b o e2) (s b o e2)] at h
          cases h
      refine p G' H' g1 all lr2 v ?_
      cases d with
      | val d => exact hv
      | own es =>
        obtain ⟨z, xs, ev, gp, fp, _, hp, hd⟩ := hv
        exact ⟨z, xs, ev, gp, notIn lr1.f lr1.fg fp, notIn lr1.m lr1.mg fp, hp, hd⟩
      | dic es =>
        obtain ⟨z, xs, ev, gp, fp, _, hp, hd⟩ := hv
        exact ⟨z, xs, ev, gp, notIn lr1.f lr1.fg fp, notIn lr1.m lr1.mg fp, hp, hd⟩
    | exc c =>
      rw [e] at p
      intro b H' hb f1 g1
      exact p b H' hb (fun b o h => f1 b o (inR (lr1.fg b o h) (lr1.f b o h))) g1
    | bad =>
      rw [e] at p
      exact p⟩
end
def seqS (g h : Env → Out) : Env → Out := fun L => match g L with
  | .next L' => h L'
  | .ret d => .ret d
  | .brk L' => .brk L'
  | .ct L' => .ct L'
  | .exc c => .exc c
  | .bad => .bad
def skipS : Env → Out := fun L => .next L
def setS (i : Nat) (f : Env → R D) : Env → Out := fun L => (f L).out fun d => .next (setE L i (some d))
def ifS (t : Env → R Bool) (g h : Env → Out) : Env → Out := fun L => (t L).out fun b => if b = true then g L else h L
def retS (f : Env → R D) : Env → Out := fun L => (f L).out fun d => .ret d
def retV (i : Nat) : Env → Out := fun L => match getE L i with
  | some d => .ret d
  | none => .bad
def retN : Env → Out := fun _ => .ret (.val .none)
def frzS (i : Nat) : Env → Out := fun L => match getE L i with
  | some (.own ds) => .next (setE L i (some (.val (.list ds))))
  | some (.val d) => .next L
  | _ => .bad
def pushS (i : Nat) (f : Env → R PD) : Env → Out := fun L => match getE L i with
  | some (.own ds) => (f L).out fun d => cif (ds.length < 1000000) (.next (setE L i (some (.own (ds ++ [d]))))) .bad
  | _ => .bad
def putS (i : Nat) (fk fv : Env → R PD) : Env → Out := fun L => match getE L i with
  | some (.own ds) => (fv L).out fun d => (fk L).out fun k => match k with
    | .int j => match ixN ds.length j with
      | some m => .next (setE L i (some (.own (ds.set m d))))
      | none => .bad
    | _ => .bad
  | _ => .bad
def raiseS (c : Str) : Env → Out := fun _ => .exc c
/-- for: the target's store, the body, the items -/
def forE (tg : PD → Env → R Env) (g : Env → Out) : List PD → Env → Out
  | [], L => .next L
  | d :: ds, L => (tg d L).out fun L1 => match g L1 with
    | .next L' => forE tg g ds L'
    | .ct L' => forE tg g ds L'
    | .brk L' => .next L'
    | .ret d => .ret d
    | .exc c => .exc c
    | .bad => .bad
def tgN (i : Nat) : PD → Env → R Env := fun d L => .ok (setE L i (some (.val d)))
def tgT (i j : Nat) : PD → Env → R Env := fun d L => match d with
  | .tuple [a, b] => .ok (setE (setE L i (some (.val a))) j (some (.val b)))
  | _ => .bad
def forL (f : Env → R PD) (tg : PD → Env → R Env) (g : Env → Out) : Env → Out := fun L => (f L).out fun d => match d with
  | .list ds => forE tg g ds L
  | _ => .bad
def forT (f : Env → R PD) (tg : PD → Env → R Env) (g : Env → Out) : Env → Out := fun L => (f L).out fun d => match d with
  | .tuple ds => forE tg g ds L
  | _ => .bad
def rng (lo : Int) (n : Nat) : List PD := (List.range n).map fun (i : Nat) => .int (lo + (i : Int))
def rngC (lo c : Int) (n : Nat) : List PD := (List.range n).map fun (i : Nat) => .int (lo + (i : Int) * c)
def small (i : Int) : Prop := -(2 ^ 62) ≤ i ∧ i < 2 ^ 62
def rngP : List PD → R (List PD)
  | [.int j] => cif (small j) (.ok (rng 0 j.toNat)) .bad
  | [.int i, .int j] => cif (small i ∧ small j) (.ok (rng i (j - i).toNat)) .bad
  | [.int i, .int j, .int c] => cif (small i ∧ small j ∧ c = -1) (.ok (rngC i (-1) (i - j).toNat)) .bad
  | _ => .bad
def forR (f : Env → R (List PD)) (tg : PD → Env → R Env) (g : Env → Out) : Env → Out := fun L => ((f L).bind rngP).out fun ds => forE tg g ds L
def signs (z : Str) : List PD := z.cps.toList.map fun c => .str ⟨#[c]⟩
def forStr (f : Env → R PD) (tg : PD → Env → R Env) (g : Env → Out) : Env → Out := fun L => (f L).out fun d => match d with
  | .str z => forE tg g (signs z) L
  | _ => .bad
def whileE (t : Env → R Bool) (g : Env → Out) : Nat → Env → Out
  | 0, _ => .bad
  | n + 1, L => (t L).out fun b => if b = true then (match g L with
    | .next L' => whileE t g n L'
    | .ct L' => whileE t g n L'
    | .brk L' => .next L'
    | .ret d => .ret d
    | .exc c => .exc c
    | .bad => .bad) else .next L
def fuel : Nat := 10000000
def whileS (t : Env → R Bool) (g : Env → Out) : Env → Out := whileE t g fuel
section
variable {X : Cx} {E : XK} {a b c e : Expr} {fa fb : Env → R PD} {pos p : Pos} {st : Stmt} {sts su sv : List Stmt} {g h : Env → Out}
theorem xs_nil : XSs X E [] skipS := pssW pss_nil fun D σ H ⟨F, M, G, L, lr, q⟩ => q σ M G H (Same.refl _) lr
theorem xs_one (h1 : XS X E st g) : XSs X E [st] g := pss_one h1
theorem xs_cons (h1 : XS X E st g) (h2 : XSs X E sts h) : XSs X E (st :: sts) (seqS g h) := pssW (pss_cons h1 h2) fun D σ H ⟨F, M, G, L, lr, q⟩ => ⟨F, M, G, L, lr, by
  unfold seqS at q
  cases e : g L with
  | next L' =>
    rw [e] at q
    exact fun σ' M' G' H' e1 lr' => ⟨F, M', G', L', lr', OkS.mono e1 q⟩
  | _ =>
    rw [e] at q
    exact q⟩
/-- a list of the def's own comes to stay, ahead of a block -/
theorem xs_frz (i : Nat) (h1 : XSs X E sts g) : XSs X E sts (seqS (frzS i) g) := pssW h1 fun D σ H ⟨F, M, G, L, lr, q⟩ => by
  unfold seqS frzS at q
  cases e : getE L i with
  | none => rw [e] at q; exact False.elim q
  | some d =>
    rw [e] at q
    cases d with
    | val d => exact ⟨F, M, G, L, lr, q⟩
    | own ds =>
      obtain ⟨M', G', gg, lr'⟩ := lr.freeze e
      exact ⟨F, M', G', _, lr', OkS.mono gg q⟩
    | dic ds => exact False.elim q
theorem xs_pass : XS X E (.Pass pos) skipS := psW ps_pass fun D σ H ⟨F, M, G, L, lr, q⟩ => q σ M G H (Same.refl _) lr
theorem xs_set {i : Nat} {x : Str} {f : Env → R D} {pos' : Pos} (hN : X.N.Nodup) (he : XF X E e f) (hi : X.N[i]? = some x := by rfl) (hx : Loc X.env.scope x := by first | exact .inl rfl | exact .inr rfl)
    (hs : swapsWith e (some (.Name x pos')) pos.line X.env = pure false := by rfl) (hf : X.fn x = true ∨ X.env.scope.names.lookup x = some .local := by first | exact .inl rfl | exact .inr rfl) : XS X E (.Assign [.Name x pos'] e pos) (setS i f) :=
  psW (ps_set hN hi hx he hs hf) fun D σ H ⟨F, M, G, L, lr, q⟩ => ⟨F, M, G, L, lr, (OkS.of q).imp fun d G2 H2 _ _ _ lr2 p v hv => by
    obtain ⟨M', lr3⟩ := lr2.setD (i := i) hv
    exact p _ _ _ _ (Same.refl _) lr3⟩
theorem xs_if {t : Env → R Bool} (hc : XT X E c t) (ha : XSs X E su g) (hb : XSs X E sv h) : XS X E (.If c su sv pos) (ifS t g h) :=
  psW (ps_if hc ha hb) fun D σ H ⟨F, M, G, L, lr, q⟩ => ⟨F, M, G, L, lr, (OkS.of q).imp fun b G2 H2 _ _ _ lr2 p => by
    cases b with
    | true => exact ⟨F, M, G2, L, lr2, p⟩
    | false => exact ⟨F, M, G2, L, lr2, p⟩⟩
theorem xs_ret {f : Env → R D} (he : XF X E e f) : XS X E (.Return (some e) pos) (retS f) :=
  psW (ps_ret he) fun D σ H ⟨F, M, G, L, lr, q⟩ => ⟨F, M, G, L, lr, (OkS.of q).imp fun d G2 H2 _ _ _ lr2 p v hv => p v G2 H2 (Same.refl _) lr2.f lr2.g lr2.fg (dres_noM hv)⟩
theorem xs_retV (i : Nat) {x : Str} {pos' : Pos} (hN : X.N[i]? = some x := by rfl) (hv : Vis X.env.scope x := by first | exact Or.inl rfl | exact Or.inr (Or.inl rfl) | exact Or.inr (Or.inr rfl)) (hd : (x == ("__debug__" : Str)) = false := by decide)
    (hcd : (x == ("__classdict__" : Str)) = false := by decide) : XS X E (.Return (some (.Name x pos')) pos) (retV i) :=
  psW (ps_ret (pe_var hN hv hd hcd)) fun D σ H ⟨F, M, G, L, lr, q⟩ => by
    unfold retV at q
    cases e : getE L i with
    | none => rw [e] at q; exact False.elim q
    | some d =>
      rw [e] at q
      have s := lr.slot i _ e
      have fp : ∀ {b o}, M b = some o → F b = none := fun {b o} h => by
        cases z : F b with
        | none => rfl
        | some u => rw [lr.fm _ _ z] at h; cases h
      cases d with
      | val d =>
        obtain ⟨v, hs, hv⟩ := s
        exact ⟨v, hs, q v G H (Same.refl _) lr.f lr.g lr.fg hv⟩
      | own ds =>
        obtain ⟨b, xs, hs, hp, ha⟩ := s
        exact ⟨_, hs, q _ G H (Same.refl _) lr.f lr.g lr.fg ⟨b, xs, rfl, lr.mg _ _ hp, fp hp, rfl, lr.m _ _ hp, ha⟩⟩
      | dic ds =>
        obtain ⟨b, xs, hs, hp, ha⟩ := s
        exact ⟨_, hs, q _ G H (Same.refl _) lr.f lr.g lr.fg ⟨b, xs, rfl, lr.mg _ _ hp, fp hp, rfl, lr.m _ _ hp, ha⟩⟩
theorem xs_retN : XS X E (.Return none pos) retN := psW ps_retN fun D σ H ⟨F, M, G, L, lr, q⟩ => q .non G H (Same.refl _) lr.f lr.g lr.fg .non
/-- x.append(e), x the def's own list -/
theorem xs_push (i : Nat) {x : Str} {p1 p2 p3 : Pos} (ha : XE X E a fa) (hN : X.N[i]? = some x := by rfl) (hv : Vis X.env.scope x := by first | exact Or.inl rfl | exact Or.inr (Or.inl rfl) | exact Or.inr (Or.inr rfl)) (hd : (x == ("__debug__" : Str)) = false := by decide)
    (hcd : (x == ("__classdict__" : Str)) = false := by decide) (hs : swapsWith (.Call (.Attribute (.Name x p1) "append" p2) [a] [] p3) none pos.line X.env = pure false := by rfl)
    (hbase : attributeBase (.Name x p1) "append" X.env (eval (.Name x p1) X.env) = eval (.Name x p1) X.env := by rfl)
    (hfew : ((backTo p3 (starEach [a] X.env)).all (fun x => !x.1) && (backToKw p3 (keywordEach [] X.env)).all (fun x => x.1.isSome)
      && decide ([a].length + ([] : List Keyword).length + (if ([] : List Keyword).isEmpty then 0 else 1) < 30)) = true := by rfl)
    (hline : (p2.endLine == p3.line) = true := by rfl) (hst : starEach [a] X.env = (false, eval a X.env) :: starEach [] X.env := by rfl) (hplain : (backTo p3 (starEach [] X.env)).any (·.1) = false := by rfl) :
    XS X E (.Expr (.Call (.Attribute (.Name x p1) "append" p2) [a] [] p3) pos) (pushS i fa) :=
  psW (ps_expr (pe_bm PySem.F.plainAttrs_list PySem.F.slot_list_append PySem.F.type_list_append mt_append (pe_var hN hv hd hcd) (pa_cons ha pa_nil hst) hbase hfew hline hst hplain) hs) fun D σ H ⟨F, M, G, L, lr, q⟩ => by
    unfold pushS at q
    cases e2 : getE L i with
    | none => rw [e2] at q; exact False.elim q
    | some dl =>
      rw [e2] at q
      cases dl with
      | own ds =>
        obtain ⟨l, xs, hs, hp, hall⟩ := lr.slot i _ e2
        refine ⟨_, hs, .inl ⟨rfl, xs, SqL.of (lr.m _ _ hp)⟩, F, M, G, L, lr, (OkS.of q).imp fun d G2 H2 eq e1 e3 lr2 p v hv => ?_⟩
        by_cases hl : ds.length < 1000000
        · rw [cif_pos hl] at p
          have hl' : xs.length < sizeLine := by
            rw [dpAll_len hall]
            exact Nat.lt_of_lt_of_le hl (by decide)
          refine ⟨l, xs, v, rfl, rfl, lr2.m _ _ hp, hl', ?_⟩
          refine p σ _ G2 _ (Same.refl _) (lr2.change e2 rfl rfl hs ⟨_, hp⟩ ⟨l, _, rfl, upd_same, ?_⟩)
          exact dpAll_app (dpAll_mono e1 _ _ hall) (.cons hv .nil)
        · rw [cif_neg hl] at p
          exact False.elim p
      | _ => exact False.elim q
/-- x[k] = e, x the def's own list -/
theorem xs_put (i : Nat) {x : Str} {p1 p2 : Pos} {k : Expr} {fk : Env → R PD} (he : XE X E e fa) (hk : XE X E k fk) (hN : X.N[i]? = some x := by rfl) (hv : Vis X.env.scope x := by first | exact Or.inl rfl | exact Or.inr (Or.inl rfl) | exact Or.inr (Or.inr rfl)) (hd : (x == ("__debug__" : Str)) = false := by decide)
    (hcd : (x == ("__classdict__" : Str)) = false := by decide) (hs : swapsWithSole [.Subscript (.Name x p1) k p2] e pos.line X.env = pure false := by rfl) (hw : swappedStores [.Subscript (.Name x p1) k p2] e X.env = pure none := by rfl)
    (has : ∀ v, assign (.Subscript (.Name x p1) k p2) X.env v = (do let ov ← holding [v] (eval (.Name x p1) X.env); let iv ← holding [v, ov] (eval k X.env); standAt p2; holding [v, ov, iv] (setItem ov iv v); release [v, ov, iv] []) := by intro _; rfl) :
    XS X E (.Assign [.Subscript (.Name x p1) k p2] e pos) (putS i fk fa) :=
  psW (ps_asg he (pg_sub (pe_var hN hv hd hcd) hk set_list has) hs hw) fun D σ H ⟨F, M, G, L, lr, q⟩ => by
    unfold putS at q
    cases e2 : getE L i with
    | none => rw [e2] at q; exact False.elim q
    | some dl =>
      rw [e2] at q
      cases dl with
      | own ds =>
        obtain ⟨l, xs, hs, hp, hall⟩ := lr.slot i _ e2
        refine ⟨F, M, G, L, lr, (OkS.of q).imp fun d G2 H2 eq e1 e3 lr2 p v hv => ⟨_, hs, F, M, G2, L, lr2, (OkS.of p).imp fun kd G3 H3 eq e4 e5 lr3 p3 kv hkv => ?_⟩⟩
        cases kd with
        | int j =>
          dsimp only at p3
          cases kx : ixN ds.length j with
          | none =>
            rw [kx] at p3
            exact False.elim p3
          | some m =>
            rw [kx] at p3
            cases hkv
            refine ⟨l, xs, j, m, rfl, rfl, lr3.m _ _ hp, by rw [dpAll_len hall]; exact kx, ?_⟩
            refine p3 σ _ G3 _ (Same.refl _) (lr3.change e2 rfl rfl hs ⟨_, hp⟩ ⟨l, _, rfl, upd_same, ?_⟩)
            exact dpAll_set (dp_mono e4 _ _ hv) _ (dpAll_mono (e1.trans e4) _ _ hall)
        | _ => exact False.elim p3
      | _ => exact False.elim q
/-- a target's store -/
def TgOk (X : Cx) (gt : TG) (tg : PD → Env → R Env) : Prop := ∀ {F M G H : Hp} {σ : St} {L L1 : Env} {v : V} {d : PD} {Q : St → Hp → Prop}, LR X.K F M G H σ L → Dq X.K G v d → tg d L = .ok L1 →
  (∀ σ1, LR X.K F M G H σ1 L1 → Q σ1 H) → gt v σ H Q
theorem tg_name {i : Nat} : TgOk X (gName i) (tgN i) := fun {F M G H σ L L1 v d Q} lr hv e k => by
  cases e
  exact k _ (lr.setVal hv)
theorem tg_tup {i j : Nat} : TgOk X (gTup X.K 2 (gCons (gName i) (gCons (gName j) gNil))) (tgT i j) := fun {F M G H σ L L1 v d Q} lr hv e k => by
  unfold tgT at e
  split at e
  · rename_i a b
    cases e
    cases hv with
    | tup hp ha =>
      cases ha with
      | cons h1 h2 =>
        cases h2 with
        | cons h2 h3 =>
          cases h3
          exact ⟨_, _, rfl, SqT.of (lr.g _ _ hp), rfl, _, _, rfl, _, _, rfl, rfl, k _ ((lr.setVal h1).setVal h2)⟩
  · cases e
theorem tg_exc {tg : PD → Env → R Env} {d : PD} {L : Env} : (∀ d L, tg d L ≠ .bad → ∃ L1, tg d L = .ok L1) → tg d L = .bad ∨ ∃ L1, tg d L = .ok L1 := fun h => by
  by_cases e : tg d L = .bad
  · exact .inl e
  · exact .inr (h d L e)
def TgNx (tg : PD → Env → R Env) : Prop := ∀ d L c, tg d L ≠ .exc c
theorem nx_name {i : Nat} : TgNx (tgN i) := fun d L c h => by cases h
theorem nx_tup {i j : Nat} : TgNx (tgT i j) := fun d L c h => by
  unfold tgT at h
  split at h <;> cases h
/-- a body's turn within a loop -/
theorem turn {K : PySem.W.Frag} {mg : Str → Option Value} {F G G1 M1 H1 : Hp} {σ1 : St} {L1 : Env} {D : Ends} {N : St → Hp → Prop} {r : Out} {k : Env → Out} (e1 : Same G G1) (lr : LR K F M1 G1 H1 σ1 L1) (q : OkS K mg E F G D r)
    (er : r = (match g L1 with | .next L' => k L' | .ct L' => k L' | .brk L' => .next L' | .ret d => .ret d | .exc c => .exc c | .bad => .bad))
    (hN : ∀ σ' M' G' H' L', Same G1 G' → LR K F M' G' H' σ' L' → r = k L' → N σ' H') : tS K mg E g { D with nx := N, ct := N, bk := D.nx } σ1 H1 := by
  refine ⟨F, M1, G1, L1, lr, ?_⟩
  cases e : g L1 with
  | next L' =>
    rw [e] at er
    exact fun σ' M' G' H' e2 lr' => hN σ' M' G' H' L' e2 lr' er
  | ct L' =>
    rw [e] at er
    exact fun σ' M' G' H' e2 lr' => hN σ' M' G' H' L' e2 lr' er
  | brk L' =>
    rw [e] at er
    rw [er] at q
    exact fun σ' M' G' H' e2 lr' => q σ' M' G' H' (e1.trans e2) lr'
  | ret d =>
    rw [e] at er
    rw [er] at q
    exact OkS.mono e1 q
  | exc c =>
    rw [e] at er
    rw [er] at q
    exact OkS.mono e1 q
  | bad =>
    rw [e] at er
    rw [er] at q
    exact q
theorem drop_cons {α : Type} : ∀ {l : List α} {i : Nat} {d : α}, l[i]? = some d → l.drop i = d :: l.drop (i + 1)
  | [], i, d, h => by simp at h
  | x :: r, 0, d, h => by cases h; rfl
  | x :: r, i + 1, d, h => drop_cons (l := r) h
/-- what the loop has come to -/
def LoopAt (K : PySem.W.Frag) (F G : Hp) (tg : PD → Env → R Env) (g : Env → Out) (ds : List PD) (r : Out) (i : Nat) (σ : St) (H : Hp) : Prop := ∃ M' G' L', Same G G' ∧ LR K F M' G' H σ L' ∧ forE tg g (ds.drop i) L' = r
theorem loop_step {K : PySem.W.Frag} {mg : Str → Option Value} {F G H : Hp} {σ : St} {D : Ends} {r : Out} {gt : TG} {tg : PD → Env → R Env} {ds : List PD} {i : Nat} {v : V} {d : PD} (htg : ∀ {F M G H : Hp} {σ : St} {L L1 : Env} {v : V} {d : PD} {Q : St → Hp → Prop}, LR K F M G H σ L → Dq K G v d → tg d L = .ok L1 →
  (∀ σ1, LR K F M G H σ1 L1 → Q σ1 H) → gt v σ H Q) (hnx : TgNx tg) (q : OkS K mg E F G D r) (hd : ds[i]? = some d) (hv : ∀ G', Same G G' → Dq K G' v d) (p : LoopAt K F G tg g ds r i σ H) :
    gt v σ H fun σ2 H2 => tS K mg E g { D with nx := LoopAt K F G tg g ds r (i + 1), ct := LoopAt K F G tg g ds r (i + 1), bk := D.nx } σ2 H2 := by
  obtain ⟨M', G', L', e1, lr, er⟩ := p
  rw [drop_cons hd] at er
  unfold forE at er
  cases et : tg d L' with
  | ok L1 =>
    rw [et] at er
    refine htg lr (hv G' e1) et fun σ1 lr1 => turn e1 lr1 q er.symm fun σ' M2 G2 H2 L2 e2 lr2 e3 => ⟨M2, G2, L2, e1.trans e2, lr2, e3.symm⟩
  | exc c => exact absurd et (hnx _ _ _)
  | bad =>
    rw [et] at er
    have er : Out.bad = r := er
    rw [← er] at q
    exact False.elim q
theorem loop_end {K : PySem.W.Frag} {mg : Str → Option Value} {F G H : Hp} {σ : St} {D : Ends} {r : Out} {tg : PD → Env → R Env} {ds : List PD} (q : OkS K mg E F G D r) (p : LoopAt K F G tg g ds r ds.length σ H) : D.nx σ H := by
  obtain ⟨M', G', L', e1, lr, er⟩ := p
  rw [List.drop_length] at er
  have er : Out.next L' = r := er
  rw [← er] at q
  exact q σ M' G' H e1 lr
variable {tg : Expr} {gt : TG} {tp : PD → Env → R Env} {body : List Stmt}
theorem xs_forL {k : Nat} (C : Ctx X E k) (ha : XE X E a fa) (hg : PG X tg gt) (ht : TgOk X gt tp) (hnx : TgNx tp) (hb : XSs X E body g) (hs : ∀ x, foldedSetIterable a X.env x = pure x := by intro _; rfl) : XS X E (.For tg a body [] pos) (forL fa tp g) :=
  psW (ps_for C.own C.calm (pi_list ha) hg hb hs) fun D σ H ⟨F, M, G, L, lr, q⟩ => ⟨F, M, G, L, lr, (OkS.of q).imp fun d G1 H1 _ _ _ lr1 p v hv => by
    cases d with
    | list ds =>
      cases hv with
      | lst hp hall =>
        rename_i z xs
        have hlen := dpAll_len hall
        refine ⟨z, rfl, ⟨xs, SqL.of (lr1.g _ _ hp)⟩, for_list (xs := xs) (LoopAt X.K F G1 tp g ds (forE tp g ds L)) ⟨M, G1, L, Same.refl _, lr1, rfl⟩ (fun i σ H _ ⟨_, _, _, e1, lr, _⟩ => SqL.of (lr.g _ _ (e1 _ _ hp))) (fun i x σ H hx pv => ?_) (fun σ H pv => ?_)⟩
        · obtain ⟨d, hd, hdv⟩ := dpAll_get' hall hx
          exact loop_step ht hnx p hd (fun G' e => dp_mono e _ _ hdv) pv
        · rw [hlen] at pv
          exact loop_end p pv
    | _ => exact False.elim p⟩
theorem xs_forT {k : Nat} (C : Ctx X E k) (ha : XE X E a fa) (hg : PG X tg gt) (ht : TgOk X gt tp) (hnx : TgNx tp) (hb : XSs X E body g) (hs : ∀ x, foldedSetIterable a X.env x = pure x := by intro _; rfl) : XS X E (.For tg a body [] pos) (forT fa tp g) :=
  psW (ps_for C.own C.calm (pi_tup ha) hg hb hs) fun D σ H ⟨F, M, G, L, lr, q⟩ => ⟨F, M, G, L, lr, (OkS.of q).imp fun d G1 H1 _ _ _ lr1 p v hv => by
    cases d with
    | tuple ds =>
      cases hv with
      | tup hp hall =>
        rename_i z xs
        have hlen := dpAll_len hall
        refine ⟨z, rfl, ⟨xs, SqT.of (lr1.g _ _ hp)⟩, for_tup (xs := xs) (LoopAt X.K F G1 tp g ds (forE tp g ds L)) ⟨M, G1, L, Same.refl _, lr1, rfl⟩ (fun i σ H _ ⟨_, _, _, e1, lr, _⟩ => SqT.of (lr.g _ _ (e1 _ _ hp))) (fun i x σ H hx pv => ?_) (fun σ H pv => ?_)⟩
        · obtain ⟨d, hd, hdv⟩ := dpAll_get' hall hx
          exact loop_step ht hnx p hd (fun G' e => dp_mono e _ _ hdv) pv
        · rw [hlen] at pv
          exact loop_end p pv
    | _ => exact False.elim p⟩
theorem rng_len (lo : Int) (n : Nat) : (rng lo n).length = n := by unfold rng; rw [List.length_map, List.length_range]
theorem rng_get {lo : Int} {n i : Nat} (h : i < n) : (rng lo n)[i]? = some (.int (lo + (i : Int))) := by
  unfold rng
  rw [List.getElem?_map, List.getElem?_range h]
  rfl
theorem rngC_len (lo c : Int) (n : Nat) : (rngC lo c n).length = n := by unfold rngC; rw [List.length_map, List.length_range]
theorem rngC_get {lo c : Int} {n i : Nat} (h : i < n) : (rngC lo c n)[i]? = some (.int (lo + (i : Int) * c)) := by
  unfold rngC
  rw [List.getElem?_map, List.getElem?_range h]
  rfl
theorem small_of {i : Int} (h : small i) : -(2 ^ 62) ≤ i ∧ i < 2 ^ 62 := h
theorem out_bind {α β : Type} {r : R α} {f : α → R β} {k : β → Out} : (r.bind f).out k = r.out fun a => (f a).out k := by cases r <;> rfl
variable {fs : Env → R (List PD)} {pr : Pos}
theorem rngP1 {K : PySem.W.Frag} {mg : Str → Option Value} {F G : Hp} {D : Ends} {ds : List PD} {k : List PD → Out} (h : OkS K mg E F G D ((rngP ds).out k)) (hl : ds.length = 1) :
    ∃ j, ds = [.int j] ∧ small j ∧ OkS K mg E F G D (k (rng 0 j.toNat)) := by
  unfold rngP at h
  split at h
  · rename_i j
    by_cases sj : small j
    · rw [cif_pos sj] at h
      exact ⟨j, rfl, sj, h⟩
    · rw [cif_neg sj] at h
      exact False.elim h
  · cases hl
  · cases hl
  · exact False.elim h
theorem xs_forR1 {k : Nat} (C : Ctx X E k) (hm : X.mg "range" = none) (ha : XA X E [a] fs) (hg : PG X tg gt) (ht : TgOk X gt tp) (hnx : TgNx tp) (hb : XSs X E body g) (hlen : ∀ {L ds}, fs L = .ok ds → ds.length = 1) (hgr : Gl X "range" := by rfl)
    (hs : starEach [a] X.env = [(false, eval a X.env)] := by rfl) (hfs : ∀ x, foldedSetIterable (.Call (.Name "range" p) [a] [] pr) X.env x = pure x := by intro _; rfl) : XS X E (.For tg (.Call (.Name "range" p) [a] [] pr) body [] pos) (forR fs tp g) :=
  psW (ps_for C.own C.calm (pi_range1 hgr hm ha hs) hg hb hfs) fun D σ H ⟨F, M, G, L, lr, q⟩ => ⟨F, M, G, L, lr, by
    unfold forR at q
    rw [out_bind] at q
    refine (OkS.of q).imp fun ds G1 H1 ed _ _ lr1 p vs hv => ?_
    obtain ⟨j, e, sj, p9⟩ := rngP1 (k := fun ds => forE tp g ds L) p (hlen ed)
    subst e
    cases hv with
    | cons h1 h2 =>
      cases h1
      cases h2
      refine ⟨j, rfl, (small_of sj).1, (small_of sj).2, for_range (LoopAt X.K F G1 tp g (rng 0 j.toNat) (forE tp g (rng 0 j.toNat) L)) ⟨M, G1, L, Same.refl _, lr1, rfl⟩ (fun i σ H hi pv => loop_step ht hnx p9 (rng_get hi) (fun G' e => .int _) pv) (fun σ H pv => loop_end p9 (by rw [rng_len]; exact pv))⟩⟩
theorem rngP2 {K : PySem.W.Frag} {mg : Str → Option Value} {F G : Hp} {D : Ends} {ds : List PD} {k : List PD → Out} (h : OkS K mg E F G D ((rngP ds).out k)) (hl : ds.length = 2) :
    ∃ i j, ds = [.int i, .int j] ∧ small i ∧ small j ∧ OkS K mg E F G D (k (rng i (j - i).toNat)) := by
  unfold rngP at h
  split at h
  · cases hl
  · rename_i i j
    by_cases sj : small i ∧ small j
    · rw [cif_pos sj] at h
      exact ⟨i, j, rfl, sj.1, sj.2, h⟩
    · rw [cif_neg sj] at h
      exact False.elim h
  · cases hl
  · exact False.elim h
theorem rngP3 {K : PySem.W.Frag} {mg : Str → Option Value} {F G : Hp} {D : Ends} {ds : List PD} {k : List PD → Out} (h : OkS K mg E F G D ((rngP ds).out k)) (hl : ds.length = 3) :
    ∃ i j, ds = [.int i, .int j, .int (-1)] ∧ small i ∧ small j ∧ OkS K mg E F G D (k (rngC i (-1) (i - j).toNat)) := by
  unfold rngP at h
  split at h
  · cases hl
  · cases hl
  · rename_i i j c
    by_cases sj : small i ∧ small j ∧ c = -1
    · rw [cif_pos sj] at h
      obtain ⟨s1, s2, s3⟩ := sj
      subst s3
      exact ⟨i, j, rfl, s1, s2, h⟩
    · rw [cif_neg sj] at h
      exact False.elim h
  · exact False.elim h
theorem xs_forR2 {k : Nat} (C : Ctx X E k) (hm : X.mg "range" = none) (ha : XA X E [a, b] fs) (hg : PG X tg gt) (ht : TgOk X gt tp) (hnx : TgNx tp) (hb : XSs X E body g) (hlen : ∀ {L ds}, fs L = .ok ds → ds.length = 2) (hgr : Gl X "range" := by rfl)
    (hs : starEach [a, b] X.env = [(false, eval a X.env), (false, eval b X.env)] := by rfl) (hs2 : starEach [b] X.env = [(false, eval b X.env)] := by rfl) (hfs : ∀ x, foldedSetIterable (.Call (.Name "range" p) [a, b] [] pr) X.env x = pure x := by intro _; rfl) :
    XS X E (.For tg (.Call (.Name "range" p) [a, b] [] pr) body [] pos) (forR fs tp g) :=
  psW (ps_for C.own C.calm (pi_range2 hgr hm ha hs hs2) hg hb hfs) fun D σ H ⟨F, M, G, L, lr, q⟩ => ⟨F, M, G, L, lr, by
    unfold forR at q
    rw [out_bind] at q
    refine (OkS.of q).imp fun ds G1 H1 ed _ _ lr1 p vs hv => ?_
    obtain ⟨i, j, e, si, sj, p9⟩ := rngP2 (k := fun ds => forE tp g ds L) p (hlen ed)
    subst e
    cases hv with
    | cons h1 h2 =>
      cases h1
      cases h2 with
      | cons h2 h3 =>
        cases h2
        cases h3
        refine ⟨i, j, rfl, ⟨(small_of si).1, (small_of si).2, (small_of sj).1, (small_of sj).2⟩, for_range (LoopAt X.K F G1 tp g (rng i (j - i).toNat) (forE tp g (rng i (j - i).toNat) L)) ⟨M, G1, L, Same.refl _, lr1, rfl⟩ (fun i σ H hi pv => loop_step ht hnx p9 (rng_get hi) (fun G' e => .int _) pv) (fun σ H pv => loop_end p9 (by rw [rng_len]; exact pv))⟩⟩
theorem xs_forR3 {k : Nat} (C : Ctx X E k) (hm : X.mg "range" = none) (ha : XA X E [a, b, c] fs) (hg : PG X tg gt) (ht : TgOk X gt tp) (hnx : TgNx tp) (hb : XSs X E body g) (hlen : ∀ {L ds}, fs L = .ok ds → ds.length = 3) (hgr : Gl X "range" := by rfl)
    (hs : starEach [a, b, c] X.env = (false, eval a X.env) :: starEach [b, c] X.env := by rfl) (hpl : (backTo pr (starEach [b, c] X.env)).any (·.1) = false := by rfl)
    (hfs : ∀ x, foldedSetIterable (.Call (.Name "range" p) [a, b, c] [] pr) X.env x = pure x := by intro _; rfl) :
    XS X E (.For tg (.Call (.Name "range" p) [a, b, c] [] pr) body [] pos) (forR fs tp g) :=
  psW (ps_for C.own C.calm (pi_range3 hgr hm ha hs hpl) hg hb hfs) fun D σ H ⟨F, M, G, L, lr, q⟩ => ⟨F, M, G, L, lr, by
    unfold forR at q
    rw [out_bind] at q
    refine (OkS.of q).imp fun ds G1 H1 ed _ _ lr1 p vs hv => ?_
    obtain ⟨i, j, e, si, sj, p9⟩ := rngP3 (k := fun ds => forE tp g ds L) p (hlen ed)
    subst e
    cases hv with
    | cons h1 h2 =>
      cases h1
      cases h2 with
      | cons h2 h3 =>
        cases h2
        cases h3 with
        | cons h3 h4 =>
          cases h3
          cases h4
          refine ⟨i, j, -1, _, rfl, RgC.neg (small_of si).1 (small_of si).2 (small_of sj).1 (small_of sj).2, for_rangeC (LoopAt X.K F G1 tp g (rngC i (-1) (i - j).toNat) (forE tp g (rngC i (-1) (i - j).toNat) L)) ⟨M, G1, L, Same.refl _, lr1, rfl⟩ (fun i σ H hi pv => loop_step ht hnx p9 (rngC_get hi) (fun G' e => .int _) pv) (fun σ H pv => loop_end p9 (by rw [rngC_len]; exact pv))⟩⟩
theorem xs_while {k : Nat} {t : Env → R Bool} (C : Ctx X E k) (ht : XT X E c t) (hb : XSs X E body g) : XS X E (.While c body [] pos) (whileS t g) :=
  psW (ps_while C.own ht hb) fun D σ H ⟨F, M, G, L, lr, q⟩ => by
    have q0 := q
    refine ⟨fun m σ' H' => ∃ M' G' L', Same G G' ∧ LR X.K F M' G' H' σ' L' ∧ whileE t g m L' = whileS t g L, ⟨fuel, M, G, L, Same.refl _, lr, rfl⟩, ?_⟩
    rintro m σ' H' ⟨M', G', L', e1, lr', er⟩
    cases m with
    | zero =>
      have er : Out.bad = whileS t g L := er
      rw [← er] at q
      exact False.elim q
    | succ m =>
      unfold whileE at er
      rw [← er] at q
      refine ⟨F, M', G', L', lr', (OkS.of (OkS.mono e1 q)).imp fun b G2 H2 eb e2 _ lr2 p => ?_⟩
      cases b with
      | true =>
        refine ⟨fun σ3 H3 => ∃ M3 G3 L3, Same G G3 ∧ LR X.K F M3 G3 H3 σ3 L3 ∧ whileE t g m L3 = whileS t g L, fun σ3 H3 h => ⟨m, Nat.lt_succ_self _, h⟩, ?_⟩
        rw [eb] at er
        exact turn (k := whileE t g m) (r := whileS t g L) (e1.trans e2) lr2 q0 er.symm fun σ' M' G' H' L' e3 lr' e4 => ⟨M', G', L', (e1.trans e2).trans e3, lr', e4.symm⟩
      | false => exact p σ' M' G2 H2 (Same.refl _) lr2
end
end
end Px
namespace Px
open PySem L2
noncomputable section
section
variable {K : PySem.W.Frag} {F M G H : Hp} {σ : St} {L : Env}
/-- a new object laid outside of all that is looked at -/
theorem LR.outside (h : LR K F M G H σ L) {p : Addr} {o : HO} (np : H p = none) : LR K (upd F p o) M G (upd H p o) σ L := by
  have gp : G p = none := h.g.free np
  have fp : F p = none := h.f.free np
  have mp : M p = none := h.m.free np
  refine ⟨fun b u e => ?_, same_mut h.m mp, same_mut h.g gp, fun a u e => ?_, fun a u e => ?_, h.mg, h.slot, h.len, h.inj⟩
  · by_cases hb : b = p
    · subst hb
      rw [upd_same] at e ⊢
      exact e
    · rw [upd_ne hb] at e ⊢
      exact h.f _ _ e
  · by_cases hb : a = p
    · subst hb
      exact mp
    · rw [upd_ne hb] at e
      exact h.fm _ _ e
  · by_cases hb : a = p
    · subst hb
      exact gp
    · rw [upd_ne hb] at e
      exact h.fg _ _ e
theorem LR.outsideCh {p : Addr} {o o' : HO} (h : LR K (upd F p o) M G H σ L) : LR K (upd F p o') M G (upd H p o') σ L := by
  have gp : G p = none := h.fg p o upd_same
  have mp : M p = none := h.fm p o upd_same
  refine ⟨fun b u e => ?_, same_mut h.m mp, same_mut h.g gp, fun a u e => ?_, fun a u e => ?_, h.mg, h.slot, h.len, h.inj⟩
  · by_cases hb : b = p
    · subst hb
      rw [upd_same] at e ⊢
      exact e
    · rw [upd_ne hb] at e ⊢
      exact h.f _ _ (by rw [upd_ne hb]; exact e)
  · by_cases hb : a = p
    · subst hb
      exact mp
    · rw [upd_ne hb] at e
      exact h.fm _ _ (by rw [upd_ne hb]; exact e)
  · by_cases hb : a = p
    · subst hb
      exact gp
    · rw [upd_ne hb] at e
      exact h.fg _ _ (by rw [upd_ne hb]; exact e)
end
def R.nx {α : Type} : R α → R α
  | .ok a => .ok a
  | _ => .bad
theorem nx_ok {α : Type} : ∀ {r : R α} {a : α}, r.nx = .ok a → r = .ok a
  | .ok a, b, h => h
  | .exc c, b, h => by cases h
  | .bad, b, h => by cases h
def lcE (j : Nat) (t : Env → R Bool) (f : Env → R PD) : List PD → Env → R (List PD)
  | [], _ => .ok []
  | d :: ds, L => (t (setE L j (some (.val d)))).nx.bind fun b => if b = true then (f (setE L j (some (.val d)))).nx.bind fun y => (lcE j t f ds L).bind fun ys => .ok (y :: ys) else lcE j t f ds L
def yesT : Env → R Bool := fun _ => .ok true
def lcR (j : Nat) (t : Env → R Bool) (f : Env → R PD) (ds : List PD) (L : Env) : R Px.D := cif (ds.length ≤ 1000000) ((lcE j t f ds (setE L j none)).nx.bind fun ys => .ok (.own ys)) .bad
def lcL (j : Nat) (fi : Env → R PD) (t : Env → R Bool) (f : Env → R PD) : Env → R Px.D := fun L => (fi L).bind fun d => match d with
  | .list ds => lcR j t f ds L
  | _ => .bad
def lcRg (j : Nat) (fi : Env → R (List PD)) (t : Env → R Bool) (f : Env → R PD) : Env → R Px.D := fun L => ((fi L).bind rngP).bind fun ds => lcR j t f ds L
section
variable {K : PySem.W.Frag} {mg : Str → Option Value}
theorem bind_ok {α β : Type} {r : R α} {f : α → R β} {b : β} (h : r.bind f = .ok b) : ∃ a, r = .ok a ∧ f a = .ok b := by
  cases r with
  | ok a => exact ⟨a, rfl, h⟩
  | exc c => cases h
  | bad => cases h
/-- what the comprehension has come to -/
def LcAt (K : PySem.W.Frag) (H0 F M G : Hp) (σ : St) (L : Env) (Dl : Addr) (j : Nat) (t : Env → R Bool) (f : Env → R PD) (ds ys : List PD) (i : Nat) (H : Hp) : Prop :=
  ∃ G' acc done rest, (H0 Dl = none ∧ Same H0 H) ∧ Same G G' ∧ LR K (upd F Dl (.lst acc)) M G' H (σ.set j none) (setE L j none) ∧ DqAll K G' acc done ∧ lcE j t f (ds.drop i) (setE L j none) = .ok rest ∧ done ++ rest = ys ∧ done.length ≤ i
theorem lc_step {H0 F M G H : Hp} {σ : St} {L : Env} {Dl : Addr} {j : Nat} {t : Env → R Bool} {f : Env → R PD} {ds ys : List PD} {i : Nat} {x : V} {d : PD} (hd : ds[i]? = some d) (hi : i < 1000000) (hv : ∀ G', Same G G' → Dq K G' x d)
    (p : LcAt K H0 F M G σ L Dl j t f ds ys i H) : wipe ((wipe σ [j]).set j (some x)) [j] = wipe σ [j] ∧ tT K mg E0 t ((wipe σ [j]).set j (some x)) H fun b H3 =>
      if b = true then tX K mg E0 f ((wipe σ [j]).set j (some x)) H3 fun y H4 => ∃ acc, H4 Dl = some (.lst acc) ∧ acc.length < sizeLine ∧ LcAt K H0 F M G σ L Dl j t f ds ys (i + 1) (upd H4 Dl (.lst (acc ++ [y]))) else LcAt K H0 F M G σ L Dl j t f ds ys (i + 1) H3 := by
  obtain ⟨G', acc, done, rest, ⟨n0, s0⟩, e1, lr, ha, er, ey, hlen⟩ := p
  rw [drop_cons hd] at er
  unfold lcE at er
  obtain ⟨b, hb, er⟩ := bind_ok er
  have hb := nx_ok hb
  have lr1 : LR K (upd F Dl (.lst acc)) M G' H ((wipe σ [j]).set j (some x)) (setE (setE L j none) j (some (.val d))) := lr.setVal (hv G' e1)
  have setset : ∀ (L : Env) (j : Nat) (a b : Option Px.D), setE (setE L j a) j b = setE L j b := fun L => by
    induction L with
    | nil => intro j a b; cases j <;> rfl
    | cons x r ih =>
      intro j a b
      cases j with
      | zero => rfl
      | succ j =>
        show x :: setE (setE r j a) j b = x :: setE r j b
        rw [ih]
  have back : ∀ {G2 H2 : Hp} {acc : List V}, LR K (upd F Dl (.lst acc)) M G2 H2 ((wipe σ [j]).set j (some x)) (setE (setE L j none) j (some (.val d))) → LR K (upd F Dl (.lst acc)) M G2 H2 (σ.set j none) (setE L j none) := fun {G2 H2 acc} lr => by
    have q := lr.wipe j none
    rw [setset, setset] at q
    have e : ((wipe σ [j]).set j (some x)).set j none = σ.set j none := by
      show ((σ.set j none).set j (some x)).set j none = σ.set j none
      rw [List.set_set, List.set_set]
    rw [e] at q
    exact q
  refine ⟨?_, upd F Dl (.lst acc), M, G', _, lr1, ?_⟩
  · show ((σ.set j none).set j (some x)).set j none = σ.set j none
    rw [List.set_set, List.set_set]
  rw [hb]
  intro G2 H2 g2 h2 lr2
  cases b with
  | true =>
    rw [if_pos rfl] at er ⊢
    obtain ⟨y, hy, er⟩ := bind_ok er
    have hy := nx_ok hy
    obtain ⟨rest', er', e3⟩ := bind_ok er
    cases e3
    refine ⟨upd F Dl (.lst acc), M, G2, _, lr2, ?_⟩
    rw [hy]
    intro G3 H3 g3 h3 lr3 v hv3
    have hD : H3 Dl = some (.lst acc) := lr3.f _ _ upd_same
    refine ⟨acc, hD, ?_, G3, acc ++ [v], done ++ [y], rest', ⟨n0, same_mut ((s0.trans h2).trans h3) n0⟩, (e1.trans g2).trans g3, (back lr3).outsideCh, dpAll_app (dpAll_mono (g2.trans g3) _ _ ha) (.cons hv3 .nil), er', by rw [List.append_assoc]; exact ey, by rw [List.length_append, List.length_singleton]; omega⟩
    rw [dpAll_len ha]
    exact Nat.lt_of_le_of_lt hlen (Nat.lt_of_lt_of_le hi (by decide))
  | false =>
    rw [if_neg Bool.false_ne_true] at er ⊢
    exact ⟨G2, acc, done, rest, ⟨n0, s0.trans h2⟩, e1.trans g2, back lr2, dpAll_mono g2 _ _ ha, er, ey, by omega⟩
theorem lc_start {F M G H : Hp} {σ : St} {L : Env} {Dl : Addr} {j : Nat} {t : Env → R Bool} {f : Env → R PD} {ds ys : List PD} (lr : LR K F M G H σ L) (nD : H Dl = none) (e : lcE j t f ds (setE L j none) = .ok ys) :
    LcAt K H F M G σ L Dl j t f ds ys 0 (upd H Dl (.lst [])) := ⟨G, [], [], ys, ⟨nD, same_new nD⟩, Same.refl _, (lr.outside nD).wipe j none, .nil, e, rfl, Nat.le_refl _⟩
theorem lc_end {F M G H H0 : Hp} {σ : St} {L : Env} {Dl : Addr} {j : Nat} {t : Env → R Bool} {f : Env → R PD} {ds ys : List PD} {Q : VK} (lr : LR K F M G H0 σ L) (nD : H0 Dl = none)
    (q : OkR K mg E F M G L H0 σ (fun d G2 H2 => ∀ v, DRes K F M G2 H2 v d → Q v H2) (.ok (.own ys))) (p : LcAt K H0 F M G σ L Dl j t f ds ys ds.length H) : Q (.ref Dl) H := by
  obtain ⟨G', acc, done, rest, ⟨_, hs⟩, e1, lr', ha, er, ey, _⟩ := p
  rw [List.drop_length] at er
  have er : R.ok [] = R.ok rest := er
  cases er
  rw [List.append_nil] at ey
  subst ey
  have fD : F Dl = none := lr.f.free nD
  have mD : M Dl = none := lr.m.free nD
  have gD : G' Dl = none := lr'.fg _ _ upd_same
  have hD : H Dl = some (.lst acc) := lr'.f _ _ upd_same
  have sF : Same F (upd F Dl (.lst acc)) := same_new fD
  refine q G' H e1 hs (lr.mono e1 lr'.g (sF.trans lr'.f) lr'.m (fun a o h => lr'.fg a o (sF _ _ h)) (fun a o h => lr'.mg a o h)) _ ⟨Dl, acc, rfl, gD, fD, mD, hD, ha⟩
theorem lcR_ok {F M G H : Hp} {σ : St} {L : Env} {j : Nat} {t : Env → R Bool} {f : Env → R PD} {ds : List PD} {P : Px.D → Hp → Hp → Prop} (q : OkR K mg E F M G L H σ P (lcR j t f ds L)) :
    ds.length ≤ 1000000 ∧ ∃ ys, lcE j t f ds (setE L j none) = .ok ys ∧ OkR K mg E F M G L H σ P (.ok (.own ys)) := by
  obtain ⟨h, q⟩ := ok_ite q
  refine ⟨h, ?_⟩
  cases e : lcE j t f ds (setE L j none) with
  | ok ys =>
    rw [e] at q
    exact ⟨ys, rfl, q⟩
  | exc c =>
    rw [e] at q
    exact False.elim q
  | bad =>
    rw [e] at q
    exact False.elim q
/-- the reading of a comprehension over a list -/
theorem lc_list_ok {σ : St} {H : Hp} {Q : VK} {fi : Env → R PD} {j : Nat} {t : Env → R Bool} {f : Env → R PD} (h : tF K mg E (lcL j fi t f) σ H Q) : tLc (iList K (tX K mg E fi)) (gName j) (tT K mg E0 t) (tX K mg E0 f) [j] σ H Q := by
  obtain ⟨F, M, G, L, lr, q⟩ := h
  refine ⟨F, M, G, L, lr, (OkR.seq q).imp fun d G1 H1 _ _ _ lr1 p v hv => ?_⟩
  cases d with
  | list ds =>
    cases hv with
    | lst hp hall =>
      rename_i z xs
      obtain ⟨hl, ys, ey, p⟩ := lcR_ok p
      have hlen := dpAll_len hall
      refine ⟨z, rfl, ⟨xs, SqL.of (lr1.g _ _ hp)⟩, fun Dl nD => lc_list (xs := xs) (LcAt K H1 F M G1 σ L Dl j t f ds ys) (lc_start lr1 nD ey) (fun i H _ ⟨_, _, _, _, _, e1, lr, _⟩ => SqL.of (lr.g _ _ (e1 _ _ hp))) (fun i x H hx pv => ?_) (fun H pv => ?_)⟩
      · obtain ⟨d, hd, hdv⟩ := dpAll_get' hall hx
        exact lc_step hd (by have := (List.getElem?_eq_some_iff.mp hd).1; omega) (fun G' e => dp_mono e _ _ hdv) pv
      · rw [hlen] at pv
        exact lc_end lr1 nD p pv
  | _ => exact False.elim p
theorem rngP_2 {F M G H : Hp} {σ : St} {L : Env} {ds : List PD} {k : List PD → R Px.D} {P : Px.D → Hp → Hp → Prop} (h : OkR K mg E F M G L H σ P ((rngP ds).bind k)) (hl : ds.length = 2) :
    ∃ i j, ds = [.int i, .int j] ∧ small i ∧ small j ∧ OkR K mg E F M G L H σ P (k (rng i (j - i).toNat)) := by
  unfold rngP at h
  split at h
  · cases hl
  · rename_i i j
    by_cases sj : small i ∧ small j
    · rw [cif_pos sj] at h
      exact ⟨i, j, rfl, sj.1, sj.2, h⟩
    · rw [cif_neg sj] at h
      exact False.elim h
  · cases hl
  · exact False.elim h
theorem bind_bind {α β γ : Type} {r : R α} {f : α → R β} {g : β → R γ} : (r.bind f).bind g = r.bind fun a => (f a).bind g := by cases r <;> rfl
theorem lc_rng_ok {σ : St} {H : Hp} {Q : VK} {fi : Env → R (List PD)} {j : Nat} {t : Env → R Bool} {f : Env → R PD} (hlen : ∀ {L ds}, fi L = .ok ds → ds.length = 2) (h : tF K mg E (lcRg j fi t f) σ H Q) :
    tLc (iRng2 (tA K mg E fi)) (gName j) (tT K mg E0 t) (tX K mg E0 f) [j] σ H Q := by
  obtain ⟨F, M, G, L, lr, q⟩ := h
  unfold lcRg at q
  rw [bind_bind] at q
  refine ⟨F, M, G, L, lr, (OkR.seq q).imp fun ds G1 H1 ed _ _ lr1 p vs hv => ?_⟩
  obtain ⟨a, b, e, sa, sb, p9⟩ := rngP_2 (k := fun ds => lcR j t f ds L) p (hlen ed)
  subst e
  cases hv with
  | cons h1 h2 =>
    cases h1
    cases h2 with
    | cons h2 h3 =>
      cases h2
      cases h3
      obtain ⟨hl, ys, ey, p8⟩ := lcR_ok p9
      rw [rng_len] at hl
      refine ⟨a, b, rfl, ⟨(small_of sa).1, (small_of sa).2, (small_of sb).1, (small_of sb).2⟩, fun Dl nD => lc_range (LcAt K H1 F M G1 σ L Dl j t f (rng a (b - a).toNat) ys) (lc_start lr1 nD ey) (fun i H hi pv => lc_step (rng_get hi) (by omega) (fun G' e => .int _) pv) (fun H pv => lc_end lr1 nD p8 (by rw [rng_len]; exact pv))⟩
end
section
variable {X : Cx} {E : XK} {a b c e elt iter tg : Expr} {fi f : Env → R PD} {t : Env → R Bool} {pos p : Pos} {ifs : List Expr} {scope : Scope} {j : Nat} {x : Str}
/-- the block of a comprehension: what its parts are read in -/
abbrev Blk (X : Cx) (scope : Scope) (P : Cx → Prop) : Prop := ∀ (s : Shared) (H : Hp) (C : Addr) (cl : List (Str × Addr)) (fp : List Addr), P (X.blk s H scope (compEnvC scope cl C X.env) fp)
theorem pts_yes : PTs X [] (tT X.K X.mg E yesT) := ptsW pts_nil fun σ H Q ⟨F, M, G, L, lr, q⟩ => OkR.here q lr
theorem pts_if (h : XT X E c t) : PTs X [c] (tT X.K X.mg E t) := pts_one h
theorem xf_lcL (hc : X.calm = true) (hN : X.N.Nodup) (hi : XE X E iter fi) (ok : BlkOk X.N X.env.scope scope [(x, j)]) (hg : Blk X scope fun Y => PG Y tg (gName j)) (ht : Blk X scope fun Y => PTs Y ifs (tT Y.K Y.mg E0 t)) (he : Blk X scope fun Y => XE Y E0 elt f)
    (hs : ∀ x, foldedSetIterable iter X.env x = pure x := by intro _; rfl) : XF X E (.ListComp elt [⟨tg, iter, ifs, 0⟩] scope pos) (lcL j fi t f) :=
  peW (pe_lc hc hN (pi_list hi) ok hg ht he hs) fun σ H Q h => lc_list_ok h
theorem xs_setLcL {i : Nat} {y : Str} {py : Pos} (hc : X.calm = true) (hN : X.N.Nodup) (hi : XE X E iter fi) (ok : BlkOk X.N X.env.scope scope [(x, j)]) (hg : Blk X scope fun Y => PG Y tg (gName j)) (ht : Blk X scope fun Y => PTs Y ifs (tT Y.K Y.mg E0 t)) (he : Blk X scope fun Y => XE Y E0 elt f)
    (hy : X.N[i]? = some y) (hyl : X.env.scope.names.lookup y = some .local) (hsw : swapsWith (.ListComp elt [⟨tg, iter, ifs, 0⟩] scope p) (some (.Name y py)) pos.line X.env = pure true)
    (hs : ∀ x, foldedSetIterable iter X.env x = pure x := by intro _; rfl) : XS X E (.Assign [.Name y py] (.ListComp elt [⟨tg, iter, ifs, 0⟩] scope p) pos) (setS i (lcL j fi t f)) :=
  psW (ps_setLc hc hN hy hyl hsw (pi_list hi) ok hg ht he hs) fun D σ H ⟨F, M, G, L, lr, q⟩ => lc_list_ok ⟨F, M, G, L, lr, (OkS.of q).imp fun d G2 H2 _ _ _ lr2 p v hv => by
    obtain ⟨M', lr3⟩ := lr2.setD (i := i) hv
    exact p _ _ _ _ (Same.refl _) lr3⟩
variable {fs : Env → R (List PD)} {pr : Pos}
theorem xf_lcR (hc : X.calm = true) (hN : X.N.Nodup) (hm : X.mg "range" = none) (hi : XA X E [a, b] fs) (hlen : ∀ {L ds}, fs L = .ok ds → ds.length = 2) (ok : BlkOk X.N X.env.scope scope [(x, j)]) (hg : Blk X scope fun Y => PG Y tg (gName j)) (ht : Blk X scope fun Y => PTs Y ifs (tT Y.K Y.mg E0 t))
    (he : Blk X scope fun Y => XE Y E0 elt f) (hgr : Gl X "range" := by rfl) (hsr : starEach [a, b] X.env = [(false, eval a X.env), (false, eval b X.env)] := by rfl) (hs2 : starEach [b] X.env = [(false, eval b X.env)] := by rfl)
    (hs : ∀ x, foldedSetIterable (.Call (.Name "range" p) [a, b] [] pr) X.env x = pure x := by intro _; rfl) : XF X E (.ListComp elt [⟨tg, .Call (.Name "range" p) [a, b] [] pr, ifs, 0⟩] scope pos) (lcRg j fs t f) :=
  peW (pe_lc hc hN (pi_range2 hgr hm hi hsr hs2) ok hg ht he hs) fun σ H Q h => lc_rng_ok hlen h
theorem xs_setLcR {i : Nat} {y : Str} {py p3 : Pos} (hc : X.calm = true) (hN : X.N.Nodup) (hm : X.mg "range" = none) (hi : XA X E [a, b] fs) (hlen : ∀ {L ds}, fs L = .ok ds → ds.length = 2) (ok : BlkOk X.N X.env.scope scope [(x, j)]) (hg : Blk X scope fun Y => PG Y tg (gName j)) (ht : Blk X scope fun Y => PTs Y ifs (tT Y.K Y.mg E0 t))
    (he : Blk X scope fun Y => XE Y E0 elt f) (hy : X.N[i]? = some y) (hyl : X.env.scope.names.lookup y = some .local) (hsw : swapsWith (.ListComp elt [⟨tg, .Call (.Name "range" p) [a, b] [] pr, ifs, 0⟩] scope p3) (some (.Name y py)) pos.line X.env = pure true)
    (hgr : Gl X "range" := by rfl) (hsr : starEach [a, b] X.env = [(false, eval a X.env), (false, eval b X.env)] := by rfl) (hs2 : starEach [b] X.env = [(false, eval b X.env)] := by rfl)
    (hs : ∀ x, foldedSetIterable (.Call (.Name "range" p) [a, b] [] pr) X.env x = pure x := by intro _; rfl) : XS X E (.Assign [.Name y py] (.ListComp elt [⟨tg, .Call (.Name "range" p) [a, b] [] pr, ifs, 0⟩] scope p3) pos) (setS i (lcRg j fs t f)) :=
  psW (ps_setLc hc hN hy hyl hsw (pi_range2 hgr hm hi hsr hs2) ok hg ht he hs) fun D σ H ⟨F, M, G, L, lr, q⟩ => lc_rng_ok hlen ⟨F, M, G, L, lr, (OkS.of q).imp fun d G2 H2 _ _ _ lr2 p v hv => by
    obtain ⟨M', lr3⟩ := lr2.setD (i := i) hv
    exact p _ _ _ _ (Same.refl _) lr3⟩
theorem for_its {z : Str} {gt : TG} {tb : TS} {D : Ends} {σ : St} {H : Hp} (Pv : Nat → St → Hp → Prop) (h0 : Pv 0 σ H)
    (hs : ∀ i c σ H, z.cps[i]? = some c → Pv i σ H → gt (.str ⟨#[c]⟩) σ H fun σ2 H2 => tb { D with nx := Pv (i + 1), ct := Pv (i + 1), bk := D.nx } σ2 H2) (hd : ∀ σ H, Pv z.cps.size σ H → D.nx σ H) :
    ∃ W : Nat → Nat → St → Hp → Prop, (∃ m, W 0 m σ H) ∧ ∀ i m σ H, W i m σ H →
      ((Its z).stop i H ∧ D.nx σ H) ∨ ((Its z).go i H ∧ ∃ N : St → Hp → Prop, (∀ σ' H', N σ' H' → ∃ m', m' < m ∧ W (i + 1) m' σ' H') ∧ ∀ x H', (Its z).yld i H x H' → gt x σ H' fun σ2 H2 => tb { D with nx := N, ct := N, bk := D.nx } σ2 H2) := by
  refine ⟨fun i m σ H => m = z.cps.size - i ∧ i ≤ z.cps.size ∧ Pv i σ H, ⟨z.cps.size, by simp, Nat.zero_le _, h0⟩, ?_⟩
  rintro i m σ H ⟨rfl, hi, p⟩
  by_cases hlt : i < z.cps.size
  · refine .inr ⟨hlt, Pv (i + 1), fun σ' H' p' => ⟨z.cps.size - (i + 1), by omega, rfl, hlt, p'⟩, fun x H' y => ?_⟩
    obtain ⟨e, c, hc, ex⟩ := y
    subst e
    subst ex
    exact hs i c σ _ hc p
  · have e : i = z.cps.size := by omega
    subst e
    exact .inl ⟨Nat.le_refl _, hd σ H p⟩
variable {body : List Stmt} {gt : TG} {tp : PD → Env → R Env} {g : Env → Out} {fa : Env → R PD}
theorem signs_len (z : Str) : (signs z).length = z.cps.size := by unfold signs; rw [List.length_map, Array.length_toList]
theorem xs_forS {k : Nat} (C : Ctx X E k) (ha : XE X E a fa) (hg : PG X tg gt) (ht : TgOk X gt tp) (hnx : TgNx tp) (hb : XSs X E body g) (hs : ∀ x, foldedSetIterable a X.env x = pure x := by intro _; rfl) : XS X E (.For tg a body [] pos) (forStr fa tp g) :=
  psW (ps_for C.own C.calm (pi_str ha) hg hb hs) fun D σ H ⟨F, M, G, L, lr, q⟩ => ⟨F, M, G, L, lr, (OkS.of q).imp fun d G1 H1 _ _ _ lr1 p v hv => by
    cases d with
    | str z =>
      cases hv
      refine ⟨z, rfl, for_its (LoopAt X.K F G1 tp g (signs z) (forE tp g (signs z) L)) ⟨M, G1, L, Same.refl _, lr1, rfl⟩ (fun i c σ H hc pv => ?_) (fun σ H pv => ?_)⟩
      · refine loop_step ht hnx p (d := .str ⟨#[c]⟩) ?_ (fun G' e => .str _) pv
        unfold signs
        rw [List.getElem?_map, Array.getElem?_toList, hc]
        rfl
      · rw [← signs_len] at pv
        exact loop_end p pv
    | _ => exact False.elim p⟩
def hasK (ks : List (Int × PD)) (j : Int) : Bool := ks.any fun p => decide (p.1 = j)
def putD (ks : List (Int × PD)) (j : Int) (d : PD) : List (Int × PD) := if hasK ks j = true then ks.map (fun p => if p.1 = j then (p.1, d) else p) else ks ++ [(j, d)]
theorem kv_has {K : PySem.W.Frag} {G : Hp} {j : Int} : ∀ {ks : List (Int × PD)} {kvs : List (Key × V)}, KvOk K G kvs ks → (valV kvs (.inl j)).isSome = hasK ks j
  | _, _, .nil => rfl
  | _, _, .cons r t => by
    rename_i p q kvs ks
    rw [← valV_any]
    have ih := kv_has (j := j) t
    rw [← valV_any] at ih
    unfold hasK at ih ⊢
    rw [List.any_cons, List.any_cons, ih]
    congr 1
    rw [r.1]
    by_cases e : q.1 = j
    · rw [decide_eq_true e, e]
      exact decide_eq_true rfl
    · rw [decide_eq_false e]
      exact decide_eq_false fun z => e (Sum.inl.inj z)
theorem kv_map {K : PySem.W.Frag} {G : Hp} {j : Int} {v : V} {d : PD} (hv : Dq K G v d) : ∀ {ks : List (Int × PD)} {kvs : List (Key × V)}, KvOk K G kvs ks →
    KvOk K G (kvs.map fun kv => if kv.1 = .inl j then (kv.1, v) else kv) (ks.map fun p => if p.1 = j then (p.1, d) else p)
  | _, _, .nil => .nil
  | _, _, .cons r t => by
    rename_i p q kvs ks
    refine .cons ?_ (kv_map hv t)
    by_cases e : q.1 = j
    · have e2 : p.1 = .inl j := by rw [r.1, e]
      dsimp only
      rw [if_pos e, if_pos e2]
      exact ⟨r.1, hv⟩
    · have e2 : ¬ p.1 = .inl j := fun z => e (Sum.inl.inj (r.1.symm.trans z))
      dsimp only
      rw [if_neg e, if_neg e2]
      exact r
theorem kv_app {K : PySem.W.Frag} {G : Hp} {a : Key × V} {b : Int × PD} (h : a.1 = .inl b.1 ∧ Dq K G a.2 b.2) : ∀ {ks : List (Int × PD)} {kvs : List (Key × V)}, KvOk K G kvs ks → KvOk K G (kvs ++ [a]) (ks ++ [b])
  | _, _, .nil => .cons h .nil
  | _, _, .cons r t => .cons r (kv_app h t)
theorem kv_put {K : PySem.W.Frag} {G : Hp} {j : Int} {v : V} {d : PD} (hv : Dq K G v d) {ks : List (Int × PD)} {kvs : List (Key × V)} (h : KvOk K G kvs ks) : KvOk K G (putK kvs (.inl j) v) (putD ks j d) := by
  unfold putK putD
  have e := kv_has (j := j) h
  rw [← valV_any] at e
  rw [e]
  by_cases z : hasK ks j = true
  · rw [if_pos z, if_pos z]
    exact kv_map hv h
  · rw [if_neg z, if_neg z]
    exact kv_app ⟨rfl, hv⟩ h
theorem kv_len {K : PySem.W.Frag} {G : Hp} : ∀ {ks : List (Int × PD)} {kvs : List (Key × V)}, KvOk K G kvs ks → kvs.length = ks.length
  | _, _, .nil => rfl
  | _, _, .cons r t => congrArg (· + 1) (kv_len t)
def mkD1 : PD → PD → R Px.D
  | .int j, v => .ok (.dic [(j, v)])
  | _, _ => .bad
def dic1 (fk fv : Env → R PD) : Env → R Px.D := fun L => (fk L).bind fun k => (fv L).bind fun v => mkD1 k v
def notInD (i : Nat) (fk : Env → R PD) : Env → R Bool := fun L => (fk L).bind fun k => match getE L i, k with
  | some (.dic ks), .int j => .ok (!hasK ks j)
  | _, _ => .bad
def putDS (i : Nat) (fk fv : Env → R PD) : Env → Out := fun L => match getE L i with
  | some (.dic ks) => (fv L).out fun d => (fk L).out fun k => match k with
    | .int j => cif (ks.length < 1000000) (.next (setE L i (some (.dic (putD ks j d))))) .bad
    | _ => .bad
  | _ => .bad
variable {fk fv : Env → R PD} {k : Expr}
theorem xf_dic1 (hk : XE X E a fk) (hv : XE X E b fv) : XF X E (.Dict [some a] [b] pos) (dic1 fk fv) :=
  peW (pe_disp (pps_cons hk hv pps_nil) rfl rfl (fun z => by cases z) (by show 1 ≤ 15; decide)) fun σ H Q ⟨F, M, G, L, lr, q⟩ => fun p np => by
    refine ⟨upd F p (.dK []), M, G, L, lr.outside np, ?_⟩
    have s0 : Same H (upd H p (.dK [])) := same_new np
    have fp : F p = none := lr.f.free np
    have mp : M p = none := lr.m.free np
    have sF : Same F (upd F p (.dK [])) := same_new fp
    unfold dic1 at q
    cases e : fk L with
    | ok d =>
      rw [e] at q
      intro G1 H1 g1 h1 lr1 v hv'
      refine ⟨upd F p (.dK []), M, G1, L, lr1, ?_⟩
      cases e2 : fv L with
      | ok d2 =>
        have q : OkR X.K X.mg E F M G L H σ (fun d G2 H2 => ∀ v, DRes X.K F M G2 H2 v d → Q v H2) ((fv L).bind fun v => mkD1 d v) := q
        rw [e2] at q
        intro G2 H2 g2 h2 lr2 v2 hv2
        have hp : H2 p = some (.dK []) := lr2.f _ _ upd_same
        cases d with
        | int j =>
          cases hv'
          refine ⟨hp, [(.inl j, v2)], rfl, by show 1 ≤ 15; decide, ?_⟩
          have gp : G2 p = none := lr2.fg _ _ upd_same
          have lr3 := lr2.outsideCh (o' := .dK (mergeK [] [(.inl j, v2)]))
          have sF3 : Same F (upd F p (.dK (mergeK [] [(.inl j, v2)]))) := same_new fp
          refine q G2 _ (g1.trans g2) (same_mut ((s0.trans h1).trans h2) np) (lr.mono (g1.trans g2) lr3.g (sF3.trans lr3.f) lr3.m (fun a o h => lr3.fg a o (sF3 _ _ h)) (fun a o h => lr3.mg a o h)) _ ⟨p, _, rfl, gp, fp, mp, upd_same, ?_⟩
          exact .cons ⟨rfl, hv2⟩ .nil
        | _ => exact False.elim q
      | exc c =>
        have q : OkR X.K X.mg E F M G L H σ (fun d G2 H2 => ∀ v, DRes X.K F M G2 H2 v d → Q v H2) ((fv L).bind fun v => mkD1 d v) := q
        rw [e2] at q
        exact fun a H' ha f g => q a H' ha (sF.trans f) (g1.trans g)
      | bad =>
        have q : OkR X.K X.mg E F M G L H σ (fun d G2 H2 => ∀ v, DRes X.K F M G2 H2 v d → Q v H2) ((fv L).bind fun v => mkD1 d v) := q
        rw [e2] at q
        exact q
    | exc c =>
      rw [e] at q
      exact fun a H' ha f g => q a H' ha (sF.trans f) g
    | bad =>
      rw [e] at q
      exact q
theorem xt_notInD {kk : Nat} (C : Ctx X E kk) (i : Nat) {y : Str} {py : Pos} (hk : XE X E a fk) (hN : X.N[i]? = some y := by rfl) (hv : Vis X.env.scope y := by first | exact Or.inl rfl | exact Or.inr (Or.inl rfl) | exact Or.inr (Or.inr rfl)) (hd : (y == ("__debug__" : Str)) = false := by decide)
    (hcd : (y == ("__classdict__" : Str)) = false := by decide) (hb : behindInMarks .NotIn (.Name y py) = false := by rfl) : XT X E (.Compare a [.NotIn] [.Name y py] pos) (notInD i fk) :=
  ptW (pt_cmp (pc_dnotin (hu_of C.room) hk (pe_var hN hv hd hcd)) hb) fun σ H Q ⟨F, M, G, L, lr, q⟩ => ⟨F, M, G, L, lr, (OkR.seq q).imp fun d G2 H2 _ _ _ lr2 p v hv => by
    cases e : getE L i with
    | none => rw [e] at p; exact False.elim p
    | some s =>
      rw [e] at p
      cases s with
      | dic ks =>
        cases d with
        | int j =>
          cases hv
          obtain ⟨z, kvs, hs, hp, hk⟩ := lr2.slot i _ e
          refine ⟨_, hs, z, _, rfl, DGet.k (k := .inl j) (lr2.m _ _ hp), _, rfl, ?_⟩
          rw [kv_has hk]
          exact OkR.here p lr2
        | _ => exact False.elim p
      | _ => exact False.elim (by cases d <;> exact p)⟩
theorem xs_putD {kk : Nat} (C : Ctx X E kk) (i : Nat) {y : Str} {p1 p2 : Pos} (he : XE X E e fv) (hk : XE X E k fk) (hN : X.N[i]? = some y := by rfl) (hv : Vis X.env.scope y := by first | exact Or.inl rfl | exact Or.inr (Or.inl rfl) | exact Or.inr (Or.inr rfl)) (hd : (y == ("__debug__" : Str)) = false := by decide)
    (hcd : (y == ("__classdict__" : Str)) = false := by decide) (hs : swapsWith e (some (.Subscript (.Name y p1) k p2)) pos.line X.env = pure false := by rfl) : XS X E (.Assign [.Subscript (.Name y p1) k p2] e pos) (putDS i fk fv) :=
  psW (ps_dput (hu_of C.room) (pe_var hN hv hd hcd) hk he hs) fun D σ H ⟨F, M, G, L, lr, q⟩ => by
    unfold putDS at q
    cases e2 : getE L i with
    | none => rw [e2] at q; exact False.elim q
    | some dl =>
      rw [e2] at q
      cases dl with
      | dic ks =>
        obtain ⟨l, kvs, hs, hp, hkv⟩ := lr.slot i _ e2
        refine ⟨F, M, G, L, lr, (OkS.of q).imp fun d G2 H2 eq e1 e3 lr2 p v hv => ⟨_, hs, F, M, G2, L, lr2, (OkS.of p).imp fun kd G3 H3 eq e4 e5 lr3 p3 kv hkv' => ?_⟩⟩
        cases kd with
        | int j =>
          dsimp only at p3
          by_cases hl : ks.length < 1000000
          · rw [cif_pos hl] at p3
            cases hkv'
            refine ⟨l, _, rfl, DPut.k (k := .inl j) (lr3.m _ _ hp) (by rw [kv_len hkv]; exact Nat.lt_of_lt_of_le hl (by decide)), ?_⟩
            refine p3 σ _ G3 _ (Same.refl _) (lr3.change e2 rfl rfl hs ⟨_, hp⟩ ⟨l, _, rfl, upd_same, ?_⟩)
            exact kv_put (dp_mono e4 _ _ hv) (kv_mono (e1.trans e4) hkv)
          · rw [cif_neg hl] at p3
            exact False.elim p3
        | _ => exact False.elim p3
      | _ => exact False.elim q
theorem xs_raise {cn : Str} {Ca : Addr} (hc : X.calm = true) (tk : Takes X (fun cls d _ H => E cls d H)) (mk : PMk X e (fun _ H Q => Q (.ref Ca) none H)) (gC : X.mg cn = some (.ref Ca)) : XS X E (.Raise (some e) none pos) (raiseS cn) :=
  psW (ps_raise hc tk mk) fun D σ H ⟨F, M, G, L, lr, q⟩ => q Ca H gC lr.f lr.g
def finish : Out → R Px.D
  | .next _ => .ok (.val .none)
  | .ret d => .ok d
  | .exc c => .exc c
  | _ => .bad
def envOf (n : Nat) (ds : List PD) : Env := ds.map (fun d => some (.val d)) ++ List.replicate (n - ds.length) none
/-- a def's own function: n slots, m parameters -/
def fnE (n m : Nat) (g : Env → Out) (ds : List PD) : R Px.D := if ds.length = m then finish (g (envOf n ds)) else .bad
theorem fnE_len {n m : Nat} {g : Env → Out} (ds : List PD) (h : ds.length ≠ m) : fnE n m g ds = .bad := if_neg h
theorem slot_start {K : PySem.W.Frag} {G : Hp} {n : Nat} : ∀ {ds : List PD} {vs : List V} {i : Nat} {d : Px.D}, DqAll K G vs ds → getE (ds.map (fun d => some (.val d)) ++ List.replicate n none) i = some d → SlotOk K noHp G (vs.map some ++ List.replicate n none)[i]? d
  | [], _, i, d, h, e => by
    have no : ∀ (n i : Nat), getE (List.replicate n none) i = (none : Option Px.D) := fun n => by
      induction n with
      | zero => intro i; cases i <;> rfl
      | succ n ih =>
        intro i
        cases i with
        | zero => rfl
        | succ i => exact ih i
    have e : getE (List.replicate n none) i = some d := e
    rw [no] at e
    cases e
  | x :: ds, _, 0, d, h, e => by
    cases h with
    | cons a b =>
      have e : some (Px.D.val x) = some d := e
      cases e
      exact ⟨_, rfl, a⟩
  | x :: ds, _, i + 1, d, h, e => by
    cases h with
    | cons a b => exact slot_start (ds := ds) (i := i) b e
theorem own_start {n : Nat} : ∀ {ds : List PD} {i : Nat} {d : Px.D}, getE (ds.map (fun d => some (.val d)) ++ List.replicate n none) i = some d → d.isMut = false
  | [], i, d, e => by
    have no : ∀ (n i : Nat), getE (List.replicate n none) i = (none : Option Px.D) := fun n => by
      induction n with
      | zero => intro i; cases i <;> rfl
      | succ n ih =>
        intro i
        cases i with
        | zero => rfl
        | succ i => exact ih i
    have e : getE (List.replicate n none) i = some d := e
    rw [no] at e
    cases e
  | x :: ds, 0, d, e => by
    have e : some (Px.D.val x) = some d := e
    cases e
    rfl
  | x :: ds, i + 1, d, e => own_start (ds := ds) (i := i) e
section
variable {P : Program} {w : World} {K : PySem.W.Frag} {mg : Str → Option Value} {base : Heap}
theorem fn_ok {y qual : Str} {st : Stmt} {fa : Addr} {fd : FuncData} {N ps : List Str} {k : Nat} {g : Env → Out} (Fn : Fun K y qual st fa fd) (S : FnScope N ps (defScope st))
    (hbody : ∀ (cdv : Value) (A : Around) (outer : List PySem.Env) (s : Shared) (H : Hp) (E : XK), Ctx (cxOf (L2.CX P w) P w K mg base N qual (defScope st) fa cdv A outer s H E) E k →
      Takes (cxOf (L2.CX P w) P w K mg base N qual (defScope st) fa cdv A outer s H E) (fun cls d _ H => E cls d H) → XSs (cxOf (L2.CX P w) P w K mg base N qual (defScope st) fa cdv A outer s H E) E (defBody st) g) :
    FnOk P w K mg base (L2.CX P w) (k + 1) fa fd ps (spF K mg ps.length (fnE N.length ps.length g)) := by
  refine Fn.okX S (fun vs H Q E h => ?_) (fun cdv A outer s H vs Q E hr h => ?_)
  · obtain ⟨F, G, ds, _, _, _, hd, hl, _⟩ := h
    rw [dpAll_len hd, hl]
  · have tk : Takes (cxOf (L2.CX P w) P w K mg base N qual (defScope st) fa cdv A outer s H E) (fun cls d _ H => E cls d H) := takes_of rfl rfl rfl rfl
    refine ⟨_, hbody cdv A outer s H E ⟨hr, passes_call tk fun _ _ _ _ h => h, rfl, passes_of rfl⟩ tk, ?_⟩
    obtain ⟨F, G, ds, f, g', fg, hd, hl, q⟩ := h
    have hN : vs.length = ds.length := dpAll_len hd
    unfold fnE at q
    rw [if_pos hl] at q
    refine ⟨F, noHp, G, envOf N.length ds, ⟨f, same_none, g', fun _ _ _ => rfl, fg, (fun _ _ h => by cases h), fun i d e => ?_, ?_, fun i j a di dj e1 e2 m1 => ?_⟩, ?_⟩
    · unfold L2.start
      rw [hN]
      exact slot_start hd e
    · unfold L2.start envOf
      rw [List.length_append, List.length_append, List.length_map, List.length_map, List.length_replicate, List.length_replicate, hN]
    · rw [own_start e1] at m1
      cases m1
    · cases e : g (envOf N.length ds) with
      | next L => 
        rw [e] at q
        exact fun σ M G' H' e1 lr => q .non G' H' e1 lr.f lr.g lr.fg .non
      | ret d =>
        rw [e] at q
        exact fun v G' H' e1 f1 g1 fg1 r => q v G' H' e1 f1 g1 fg1 r
      | exc c =>
        rw [e] at q
        exact q
      | brk L => rw [e] at q; exact False.elim q
      | ct L => rw [e] at q; exact False.elim q
      | bad => rw [e] at q; exact False.elim q
end
end
end
end Px
namespace Px
open PySem L2
noncomputable section
theorem hu65 {A : Around} {k : Nat} (hr : Room k A) : A.units + 65 < cLine := by
  have := hr.un
  omega
/-- a def stands there -/
structure Has (K : PySem.W.Frag) (mg : Str → Option Value) (nm : Str) (st : Stmt) (ps : List Str) : Prop where
  ex : ∃ (a : Addr) (fd : FuncData), Fun K nm nm st a fd ∧ mg nm = some (.ref a) ∧ ∀ us : List Value, us.length = ps.length → bindArgs fd ⟨us, []⟩ = pure (ps.zip us)
/-- a def keeps its contract -/
structure Fct (P : Program) (w : World) (K : PySem.W.Frag) (mg : Str → Option Value) (base : Heap) (nm : Str) (ps : List Str) (k : Nat) (fc : List PD → R D) : Prop where
  ex : ∃ (a : Addr) (fd : FuncData), mg nm = some (.ref a) ∧ PySem.W.keepIn K (.ref a) = true ∧ Binds K fd ps [] ∧ FnOk P w K mg base (L2.CX P w) k a fd ps (spF K mg ps.length fc)
/-- the built-in names stand for themselves -/
structure Blt (mg : Str → Option Value) : Prop where
  len : mg "len" = none
  range : mg "range" = none
  list : mg "list" = none
  isinstance : mg "isinstance" = none
  int : mg "int" = none
  str : mg "str" = none
  bool : mg "bool" = none
  tuple : mg "tuple" = none
  abs : mg "abs" = none
section
variable {P : Program} {w : World} {K : PySem.W.Frag} {mg : Str → Option Value} {base : Heap}
theorem has_of {h : Heap} {nm : Str} {st : Stmt} {ps : List Str} (b : ∀ (kV doc pm : Value) (an : Option Addr) (cdv ct : Value) (us : List Value), us.length = ps.length → bindArgs (PySem.W.fnOf nm nm (defArgs st) (defBody st) (defScope st) .none kV doc pm an cdv ct) ⟨us, []⟩ = pure (ps.zip us))
    (X : K.In h) (G : h.Ns mainGlobals mg) {f : Addr} {oc : Value} {od an : Option Addr} {osl : Array (Option Value)} {kV doc pm cdv ct : Value} (a : PySem.W.nsIn K mainGlobals nm = some (some (.ref f)))
    (l : K.lookup f = some ⟨oc, od, .func (PySem.W.fnOf nm nm (defArgs st) (defBody st) (defScope st) .none kV doc pm an cdv ct), osl⟩) (c : PySem.W.codeIn K cdv nm = true) (k : PySem.W.keepIn K (.ref f) = true) : Has K mg nm st ps :=
  ⟨f, _, fun_mk l c k, PySem.W.mg_of X G a, b kV doc pm an cdv ct⟩
theorem fct_ok {nm : Str} {st : Stmt} {N ps : List Str} {k n m : Nat} {g : Env → Out} {f : List PD → R D} (hf : f = fnE n m g) (hN : N.length = n) (hm : ps.length = m) (Hs : Has K mg nm st ps) (S : FnScope N ps (defScope st))
    (hbody : ∀ (fa : Addr) (cdv : Value) (A : Around) (outer : List PySem.Env) (s : Shared) (H : Hp) (E : XK), Ctx (cxOf (L2.CX P w) P w K mg base N nm (defScope st) fa cdv A outer s H E) E k →
      Takes (cxOf (L2.CX P w) P w K mg base N nm (defScope st) fa cdv A outer s H E) (fun cls d _ H => E cls d H) → XSs (cxOf (L2.CX P w) P w K mg base N nm (defScope st) fa cdv A outer s H E) E (defBody st) g) :
    Fct P w K mg base nm ps (k + 1) f := by
  subst hf
  subst hN
  subst hm
  obtain ⟨a, fd, Fn, hm, hb⟩ := Hs.ex
  exact ⟨a, fd, hm, Fn.kp, .all hb, fn_ok Fn S fun cdv A outer s H E C tk => hbody a cdv A outer s H E C tk⟩
theorem xf_callF {X : Cx} {E : XK} {k j : Nat} {ps : List Str} {x : Str} {a : Expr} {es : List Expr} {pos p : Pos} {fc : List PD → R D} {fs : Env → R (List PD)} (C : Ctx X E k) (Fc : Fct X.prog X.w X.K X.mg X.base x ps j fc) (hj : j ≤ k) (hn : ∀ ds, ds.length ≠ ps.length → fc ds = .bad)
    (ha : XA X E (a :: es) fs) (hg : Gl X x := by rfl) (hdb : (x == ("__debug__" : Str)) = false := by decide)
    (he : starEach (a :: es) X.env = (false, eval a X.env) :: starEach es X.env := by rfl) (hpl : (backTo pos (starEach es X.env)).any (·.1) = false := by rfl) : XF X E (.Call (.Name x p) (a :: es) [] pos) (callE fc fs) := by
  obtain ⟨f, fd, hm, hk, hb, Fk⟩ := Fc.ex
  exact xf_call C Fk hj hn hm hk hb ha hg hdb he hpl
section
variable (K : PySem.W.Frag) (mg : Str → Option Value) (E : XK)
def tAB (f : Env → R (List PD)) : TA := fun σ H Q => ∃ F M G L, LR K F M G H σ L ∧ OkR K mg E F M G L H σ (fun ds G2 H2 => ∀ vs, DqAll K H2 vs ds → Q vs H2) (f L)
end
abbrev XAB (X : Cx) (E : XK) (e : List Expr) (f : Env → R (List PD)) : Prop := PA X e (tAB X.K X.mg E f)
section
variable {X : Cx} {E : XK} {a : Expr} {es : List Expr} {fa : Env → R PD} {fs : List (Env → R PD)}
theorem xab_nil : XAB X E [] (argsE []) := paW pa_nil fun σ H Q ⟨F, M, G, L, lr, q⟩ => OkR.here q lr _ .nil
theorem xab_cons (ha : XB X E a fa) (hr : XAB X E es (argsE fs)) (hs : starEach (a :: es) X.env = (false, eval a X.env) :: starEach es X.env := by rfl) : XAB X E (a :: es) (argsE (fa :: fs)) :=
  paW (pa_cons ha hr hs) fun σ H Q ⟨F, M, G, L, lr, q⟩ => ⟨F, M, G, L, lr, (OkR.seq q).imp fun d G2 H2 _ _ _ lr2 p v hv => ⟨F, M, G2, L, lr2, (OkR.seq p).imp fun ds G3 H3 _ e3 e4 lr3 p3 vs hvs => p3.here lr3 _ (.cons (dp_mono e4 _ _ (bres_dp lr2.g hv)) hvs)⟩⟩
end
def plainD : D → R PD
  | .val d => cif (flatP d = true) (.ok d) .bad
  | _ => .bad
def callS (fc : List PD → R D) (fs : Env → R (List PD)) : Env → R PD := fun L => (fs L).bind fun ds => (fc ds).bind plainD
theorem flat_any {G G' : Hp} {v : V} {d : PD} (f : flatP d = true) (h : Dq K G v d) : Dq K G' v d := by
  cases h <;> first | exact .non | exact .bl _ | exact .int _ | exact .str _ | cases f
theorem xe_callS {X : Cx} {E : XK} {k j : Nat} {ps : List Str} {x : Str} {a : Expr} {es : List Expr} {pos p : Pos} {fc : List PD → R D} {fs : Env → R (List PD)} (C : Ctx X E k) (Fc : Fct X.prog X.w X.K X.mg X.base x ps j fc) (hj : j ≤ k) (hn : ∀ ds, ds.length ≠ ps.length → fc ds = .bad)
    (ha : XAB X E (a :: es) fs) (hg : Gl X x := by rfl) (hdb : (x == ("__debug__" : Str)) = false := by decide)
    (he : starEach (a :: es) X.env = (false, eval a X.env) :: starEach es X.env := by rfl) (hpl : (backTo pos (starEach es X.env)).any (·.1) = false := by rfl) : XE X E (.Call (.Name x p) (a :: es) [] pos) (callS fc fs) := by
  obtain ⟨f, fd, hm, hk, hb, Fk⟩ := Fc.ex
  refine peW (pe_call Fk (C.room.mono hj) hg hm hk hb .nil C.pass ha hdb he hpl) fun σ H Q ⟨F, M, G, L, lr, q⟩ => ⟨F, M, G, L, lr, (OkR.seq q).imp fun ds G1 H1 _ _ _ lr1 p vs hvs => ?_⟩
  have hlen : ds.length = ps.length := by
    by_cases e : ds.length = ps.length
    · exact e
    · rw [hn ds e] at p
      exact False.elim p
  show spF X.K X.mg ps.length fc (vs ++ []) H1 Q E
  rw [List.append_nil]
  refine ⟨noHp, H1, ds, same_none, Same.refl _, (fun _ _ e => by cases e), hvs, hlen, ?_⟩
  cases e : fc ds with
  | ok d =>
    rw [e] at p
    intro v G' H' g1 _ g2 _ hv
    cases d with
    | val d =>
      obtain ⟨hf, p⟩ := ok_ite p
      have s : Same H1 H' := g1.trans g2
      exact p G1 H' (Same.refl _) s (lr1.mono (Same.refl _) (lr1.g.trans s) (lr1.f.trans s) (lr1.m.trans s) lr1.fg lr1.mg) v (flat_any hf hv)
    | _ => exact False.elim p
  | exc c =>
    rw [e] at p
    exact fun b H' hb _ g => p b H' hb (lr1.f.trans g) (lr1.g.trans g)
  | bad =>
    rw [e] at p
    exact p
/-- an argument list's length -/
theorem argsE1 {f : Env → R PD} : ∀ {L ds}, argsE [f] L = .ok ds → ds.length = 1 := fun h => argsE_len h
theorem argsE2 {f g : Env → R PD} : ∀ {L ds}, argsE [f, g] L = .ok ds → ds.length = 2 := fun h => argsE_len h
theorem argsE3 {f g h : Env → R PD} : ∀ {L ds}, argsE [f, g, h] L = .ok ds → ds.length = 3 := fun h => argsE_len h
/-- within a comprehension's block -/
theorem Ctx.blk {X : Cx} {E : XK} {k : Nat} (C : Ctx X E k) (s : Shared) (H : Hp) (scope : Scope) (env : PySem.Env) (fp : List Addr) : Ctx (X.blk s H scope env fp) E0 k := ⟨C.room, passL, C.calm, PassesOwn.never⟩
def spLaw (K : PySem.W.Frag) : Sp := fun vs H Q _ => ∃ (a : Addr) (ns : List Int), vs = [.ref a] ∧ SqL K H a (ns.map V.int) ∧ ns.length ≤ 63 ∧ ∀ H', Q (.bl true) H'
theorem law_of {a : Addr} {fd : FuncData} {k : Nat} {f : List PD → R D} (h : ∀ ns : List Int, ns.length ≤ 63 → f [scr ns] = .ok (.val (.bool true))) {x : Str} (F : FnOk P w K mg base (L2.CX P w) k a fd [x] (spF K mg 1 f)) : FnOk P w K mg base (L2.CX P w) k a fd [x] (spLaw K) :=
  F.imp fun vs H Q E ⟨a, ns, ev, hS, hl, q⟩ => by
    subst ev
    refine ⟨noHp, H, [scr ns], same_none, Same.refl H, (fun _ _ e => by cases e), .cons (.scr hS) .nil, rfl, ?_⟩
    rw [h ns hl]
    intro v G' H' _ _ _ _ hv
    cases hv
    exact q H'
theorem law_fn {st : Stmt} {N : List Str} {k n : Nat} {g : Env → Out} {f : List PD → R D} {a : Addr} {fd : FuncData} (hf : f = fnE n 1 g) (hN : N.length = n) (Fn : Fun K "law" "law" st a fd) (S : FnScope N ["script"] (defScope st)) (h : ∀ ns : List Int, ns.length ≤ 63 → f [scr ns] = .ok (.val (.bool true)))
    (hbody : ∀ (fa : Addr) (cdv : Value) (A : Around) (outer : List PySem.Env) (s : Shared) (H : Hp) (E : XK), Ctx (cxOf (L2.CX P w) P w K mg base N "law" (defScope st) fa cdv A outer s H E) E k →
      Takes (cxOf (L2.CX P w) P w K mg base N "law" (defScope st) fa cdv A outer s H E) (fun cls d _ H => E cls d H) → XSs (cxOf (L2.CX P w) P w K mg base N "law" (defScope st) fa cdv A outer s H E) E (defBody st) g) :
    FnOk P w K mg base (L2.CX P w) (k + 1) a fd ["script"] (spLaw K) := by
  subst hf
  subst hN
  exact law_of h (fn_ok Fn S fun cdv A outer s H E C tk => hbody a cdv A outer s H E C tk)
theorem cx_no {P : Program} {w : World} {H : Hp} {s s' : Shared} {e : Value} (h : L2.CX P w [] H s (fun _ _ _ => False) e s') : False := by
  obtain ⟨_, _, _, _, _, _, _, _, _, _, _, _, z⟩ := h
  exact z
/-- the law's row, from what the top has left -/
theorem law_walk {l : PySem.W.OpenLaw} {k : Nat} {q : Program} {loose : List Str} {XP : (Str → Option Value) → Heap → Prop} {YP : World → Heap → Prop} {d : DefRec} {K : Params → PySem.W.Frag} {st : Stmt} (hn : l.most = some 63) (hdf : d.params.defaults = []) (hr : Room k callerA) (hnm : d.name = "law")
    (hY : ∀ (w : World) (h : Heap), YP w h → (K w.params).In h)
    (F : ∀ (w : World) (mg : Str → Option Value) (h : Heap), (K w.params).In h → h.Ns mainGlobals mg → Has (K w.params) mg "law" st ["script"] ∧ ∀ (a : Addr) (fd : FuncData), Fun (K w.params) "law" "law" st a fd → ∀ base : Heap, FnOk l.prog w (K w.params) mg base (L2.CX l.prog w) k a fd ["script"] (spLaw (K w.params))) :
    PySem.W.WalkO q loose XP YP l.row.toRowW d [] (fun f vs => PySem.call f vs) :=
  L2.walk_of (n := 63) (k := k) (x := "script") (CX := fun w => L2.CX l.prog w) (sp := fun w => spLaw (K w.params)) hn (by decide) hdf hr hY (fun w mg fa h KX G hmg => by
    obtain ⟨Hl, ok⟩ := F w mg h KX G
    obtain ⟨a, fd, Fn, hm, hb⟩ := Hl.ex
    rw [hnm, hm] at hmg
    cases hmg
    exact ⟨fd, fun s u => .of_eq (hb [u] rfl), fun base _ _ => ok _ fd Fn base⟩)
    (fun w H a ns hl _ hS => ⟨a, ns, rfl, hS, hl, fun _ => rfl⟩) fun w H s e s' h => cx_no h
end
end
end Px
namespace Px
open PySem L2
noncomputable section
def onStr {α : Type} (g : Str → PD → R α) (fa fb : Env → R PD) : Env → R α := fun L => (fa L).bind fun x => match x with
  | .str z => (fb L).bind (g z)
  | _ => .bad
def splitP (a : Str) : PD → R D
  | .str b => cif ((b.length == 0) = false ∧ a.length ≤ 1000000) (.ok (.own ((Txt.split a b).map PyData.str))) .bad
  | _ => .bad
def strsOf : List PD → Option (List Str)
  | [] => some []
  | .str a :: ds => (strsOf ds).map fun r => a :: r
  | _ :: _ => none
def joinP (a : Str) : PD → R PD
  | .list ds => match strsOf ds with
    | some ys => cif ((ys.map (·.length)).sum + ys.length * a.length ≤ 1000000) (.ok (.str (Txt.join a ys))) .bad
    | none => .bad
  | _ => .bad
theorem dq_strs {K : PySem.W.Frag} {G : Hp} : ∀ (ys : List Str), DqAll K G (ys.map V.str) (ys.map PyData.str)
  | [] => .nil
  | y :: ys => .cons (.str y) (dq_strs ys)
theorem strs_dq {K : PySem.W.Frag} {G : Hp} : ∀ {ds : List PD} {vs : List V} {ys : List Str}, DqAll K G vs ds → strsOf ds = some ys → vs = ys.map V.str
  | [], _, ys, h, e => by
    cases h
    cases e
    rfl
  | d :: ds, _, ys, h, e => by
    cases h with
    | cons a b =>
      cases d with
      | str z =>
        cases a
        have e : (strsOf ds).map (fun r => z :: r) = some ys := e
        cases e2 : strsOf ds with
        | none =>
          rw [e2] at e
          cases e
        | some r =>
          rw [e2] at e
          cases e
          rw [strs_dq b e2]
          rfl
      | _ => cases e
section
variable {X : Cx} {E : XK} {a b : Expr} {fa fb : Env → R PD} {pos p : Pos}
theorem xf_split {apos pos : Pos} (ha : XB X E a fa) (hb : XB X E b fb) (hs : starEach [b] X.env = [(false, eval b X.env)] := by rfl) (hbase : attributeBase a "split" X.env (eval a X.env) = eval a X.env := by rfl) (hline : (apos.endLine == pos.line) = true := by rfl) :
    XF X E (.Call (.Attribute a "split" apos) [b] [] pos) (onStr splitP fa fb) :=
  peW (pe_split ha hb hs hbase hline) fun σ H Q ⟨F, M, G, L, lr, q⟩ => ⟨F, M, G, L, lr, (OkR.seq q).imp fun d G1 H1 _ _ _ lr1 p1 v hv => by
    cases d with
    | str z =>
      rw [bres_str hv]
      refine ⟨⟨z, rfl⟩, F, M, G1, L, lr1, (OkR.seq p1).imp fun d2 G2 H2 _ e1 e2 lr2 p2 v2 hv2 => ?_⟩
      cases d2 with
      | str y =>
        rw [bres_str hv2]
        obtain ⟨⟨h1, h2⟩, p2⟩ := ok_ite p2
        refine ⟨z, y, rfl, rfl, h1, Nat.le_trans (Nat.add_le_add_right h2 2) (by decide), fun w nw => ?_⟩
        obtain ⟨lr3, hh, gp, fp, mp⟩ := lr2.newM (o := .lst ((Txt.split z y).map V.str)) nw
        exact p2 _ _ (Same.refl _) hh lr3 _ ⟨w, _, rfl, gp, fp, mp, upd_same, dq_strs _⟩
      | _ => exact False.elim p2
    | _ => exact False.elim p1⟩
theorem xe_join {apos pos : Pos} (ha : XB X E a fa) (hb : XB X E b fb) (hs : starEach [b] X.env = [(false, eval b X.env)] := by rfl) (hbase : attributeBase a "join" X.env (eval a X.env) = eval a X.env := by rfl) (hline : (apos.endLine == pos.line) = true := by rfl) :
    XE X E (.Call (.Attribute a "join" apos) [b] [] pos) (onStr joinP fa fb) :=
  peW (pe_join ha hb hs hbase hline) fun σ H Q ⟨F, M, G, L, lr, q⟩ => ⟨F, M, G, L, lr, (OkR.seq q).imp fun d G1 H1 _ _ _ lr1 p1 v hv => by
    cases d with
    | str z =>
      rw [bres_str hv]
      refine ⟨⟨z, rfl⟩, F, M, G1, L, lr1, (OkR.seq p1).imp fun d2 G2 H2 _ e1 e2 lr2 p2 v2 hv2 => ?_⟩
      cases d2 with
      | list ds =>
        have p2 : OkR X.K X.mg E F M G2 L H2 σ (fun d G2 H2 => ∀ v, Dq X.K G2 v d → Q v H2) (match strsOf ds with
          | some ys => cif ((ys.map (·.length)).sum + ys.length * z.length ≤ 1000000) (.ok (.str (Txt.join z ys))) .bad
          | none => .bad) := p2
        cases e : strsOf ds with
        | none =>
          rw [e] at p2
          exact False.elim p2
        | some ys =>
          rw [e] at p2
          obtain ⟨h, p2⟩ := ok_ite p2
          obtain ⟨w, xs, ev, hp, hall⟩ := bres_list lr2.g hv2
          have ex := strs_dq hall e
          subst ex
          exact ⟨z, w, ys, rfl, by rw [ev], .inl (SqL.of hp), Nat.le_trans h (by decide), OkR.here p2 lr2 _ (.str _)⟩
      | _ => exact False.elim p2
    | _ => exact False.elim p1⟩
end
end
end Px
namespace Px
open PySem L2
noncomputable section
def asNone : Px.D → R Bool
  | .val d => .ok (isNon d)
  | .own _ => .ok false
  | .dic _ => .bad
def callN (fc : List PD → R Px.D) (fs : Env → R (List PD)) : Env → R Bool := fun L => (fs L).bind fun ds => (fc ds).bind asNone
/-- f(..) is None: the arguments may be looked at, for the answer is let go -/
theorem xt_callN {X : Cx} {E : XK} {k j : Nat} {ps : List Str} {x : Str} {a : Expr} {es : List Expr} {pos p p2 p3 : Pos} {u : Nat} {fc : List PD → R Px.D} {fs : Env → R (List PD)} (C : Ctx X E k) (Fc : Fct X.prog X.w X.K X.mg X.base x ps j fc) (hj : j ≤ k) (hn : ∀ ds, ds.length ≠ ps.length → fc ds = .bad)
    (ha : XAB X E (a :: es) fs) (hg : Gl X x := by rfl) (hdb : (x == ("__debug__" : Str)) = false := by decide)
    (he : starEach (a :: es) X.env = (false, eval a X.env) :: starEach es X.env := by rfl) (hpl : (backTo pos (starEach es X.env)).any (·.1) = false := by rfl) :
    XT X E (.Compare (.Call (.Name x p) (a :: es) [] pos) [.Is] [.Constant .none u p2] p3) (callN fc fs) := by
  obtain ⟨f, fd, hm, hk, hb, Fk⟩ := Fc.ex
  refine ptW (pt_cmpR op_isN (pe_call Fk (C.room.mono hj) hg hm hk hb .nil C.pass ha hdb he hpl) pe_non (nomark _)) fun σ H Q ⟨F, M, G, L, lr, q⟩ => ⟨F, M, G, L, lr, (OkR.seq q).imp fun ds G1 H1 _ _ _ lr1 p vs hvs => ?_⟩
  have hlen : ds.length = ps.length := by
    by_cases e : ds.length = ps.length
    · exact e
    · rw [hn ds e] at p
      exact False.elim p
  show spF X.K X.mg ps.length fc (vs ++ []) H1 _ E
  rw [List.append_nil]
  refine ⟨noHp, H1, ds, same_none, Same.refl _, (fun _ _ e => by cases e), hvs, hlen, ?_⟩
  cases e : fc ds with
  | ok d =>
    rw [e] at p
    intro v G' H' g1 _ g2 _ hv
    have s : Same H1 H' := g1.trans g2
    have lr2 : LR X.K F M G1 H' σ L := lr1.mono (Same.refl _) (lr1.g.trans s) (lr1.f.trans s) (lr1.m.trans s) lr1.fg lr1.mg
    cases d with
    | val d =>
      have e2 : decide (v = .non) = isNon d := isNon_of (G := G') (H := H') (.inl hv)
      have p2 := p G1 H' (Same.refl _) s lr2
      exact ⟨rfl, _, rfl, by rw [e2]; exact p2⟩
    | own es2 =>
      obtain ⟨z, xs, ev, _⟩ := hv
      have p2 := p G1 H' (Same.refl _) s lr2
      exact ⟨rfl, _, rfl, by rw [ev]; exact p2⟩
    | dic es2 => exact False.elim p
  | exc c =>
    rw [e] at p
    exact fun b H' hb _ g => p b H' hb (lr1.f.trans g) (lr1.g.trans g)
  | bad =>
    rw [e] at p
    exact p
/-- x = y, y's own list, y forgotten -/
def mvS (i j : Nat) : Env → Out := fun L => match getE L j with
  | some (.own ds) => .next (setE (setE L j none) i (some (.own ds)))
  | _ => .bad
theorem LR.move {K : PySem.W.Frag} {F M G H : Hp} {σ : St} {L : Env} (h : LR K F M G H σ L) {i j : Nat} (ij : i ≠ j) {v : V} {ds : List PD} (e : getE L j = some (.own ds)) (hs : σ[j]? = some (some v)) : LR K F M G H (σ.set i (some v)) (setE (setE L j none) i (some (.own ds))) := by
  obtain ⟨p, xs, hs2, hp, ha⟩ := h.slot j _ e
  rw [hs] at hs2
  cases hs2
  have low : ∀ {k d}, k ≠ i → getE (setE (setE L j none) i (some (.own ds))) k = some d → k ≠ j ∧ getE L k = some d := fun {k d} hk z => by
    rw [getE_set_ne _ _ _ _ hk] at z
    by_cases hj : k = j
    · subst hj
      rw [getE_set_none] at z
      cases z
    · rw [getE_set_ne _ _ _ _ hj] at z
      exact ⟨hj, z⟩
  refine ⟨h.f, h.m, h.g, h.fm, h.fg, h.mg, fun k d z => ?_, by rw [setE_len, setE_len, List.length_set]; exact h.len, fun k l a dk dl e1 e2 m1 m2 s1 s2 => ?_⟩
  · by_cases hk : k = i
    · subst hk
      have lt : k < σ.length := by
        have := getE_len z
        rw [setE_len, setE_len, h.len] at this
        exact this
      have ed := getE_set_same _ _ _ _ z
      subst ed
      exact ⟨p, xs, List.getElem?_set_self lt, hp, ha⟩
    · obtain ⟨_, z2⟩ := low hk z
      rw [st_get_set hk]
      exact h.slot k d z2
  · have at_i : ∀ {k d}, getE (setE (setE L j none) i (some (.own ds))) k = some d → k = i → (σ.set i (some (.ref p)))[k]? = some (some (.ref a)) → p = a := fun {k d} z hk s => by
      subst hk
      have lt : k < σ.length := by
        have := getE_len z
        rw [setE_len, setE_len, h.len] at this
        exact this
      rw [List.getElem?_set_self lt] at s
      cases s
      rfl
    by_cases hk : k = i
    · by_cases hl : l = i
      · rw [hk, hl]
      · have pa := at_i e1 hk s1
        subst pa
        obtain ⟨lj, z2⟩ := low hl e2
        rw [st_get_set hl] at s2
        exact absurd (h.inj j l p _ dl e z2 rfl m2 hs s2).symm lj
    · by_cases hl : l = i
      · have pa := at_i e2 hl s2
        subst pa
        obtain ⟨kj, z2⟩ := low hk e1
        rw [st_get_set hk] at s1
        exact absurd (h.inj j k p _ dk e z2 rfl m1 hs s1).symm kj
      · obtain ⟨_, z1⟩ := low hk e1
        obtain ⟨_, z2⟩ := low hl e2
        rw [st_get_set hk] at s1
        rw [st_get_set hl] at s2
        exact h.inj k l a dk dl z1 z2 m1 m2 s1 s2
section
variable {X : Cx} {E : XK} {pos pos' p2 : Pos}
theorem xs_mv (i j : Nat) (ij : i ≠ j) {x y : Str} (hN : X.N.Nodup) (hi : X.N[i]? = some x := by rfl) (hj : X.N[j]? = some y := by rfl) (hv : Vis X.env.scope y := by first | exact Or.inl rfl | exact Or.inr (Or.inl rfl) | exact Or.inr (Or.inr rfl)) (hd : (y == ("__debug__" : Str)) = false := by decide)
    (hcd : (y == ("__classdict__" : Str)) = false := by decide) (hx : Loc X.env.scope x := by first | exact .inl rfl | exact .inr rfl)
    (hs : swapsWith (.Name y p2) (some (.Name x pos')) pos.line X.env = pure false := by rfl) (hf : X.fn x = true ∨ X.env.scope.names.lookup x = some .local := by first | exact .inl rfl | exact .inr rfl) : XS X E (.Assign [.Name x pos'] (.Name y p2) pos) (mvS i j) :=
  psW (ps_set hN hi hx (pe_var hj hv hd hcd) hs hf) fun D σ H ⟨F, M, G, L, lr, q⟩ => by
    unfold mvS at q
    cases e : getE L j with
    | none => rw [e] at q; exact False.elim q
    | some d =>
      rw [e] at q
      cases d with
      | own ds =>
        obtain ⟨p, xs, hs, hp, ha⟩ := lr.slot j _ e
        exact ⟨_, hs, q _ M G H (Same.refl _) (lr.move ij e hs)⟩
      | val d => exact False.elim q
      | dic d => exact False.elim q
/-- an own exception class over ValueError -/
structure ExcAt (K : PySem.W.Frag) (mg : Str → Option Value) (n : Str) : Prop where
  ex : ∃ C : Addr, mg n = some (.ref C) ∧ PySem.W.excIn K C [.type "ValueError", .type "Exception", .type "BaseException", .type "object"] "ValueError.__new__" = true ∧ PySem.W.keepIn K (.ref C) = true ∧
    PySem.W.subIn K (.ref C) (.type "BaseException") = some true ∧ PySem.W.typeIn K (.ref C) = some (.type "type")
theorem exc_of {K : PySem.W.Frag} {mg : Str → Option Value} {h : Heap} {n : Str} (KX : K.In h) (G : h.Ns mainGlobals mg) {C : Addr} (a : PySem.W.nsIn K mainGlobals n = some (some (.ref C))) (b : PySem.W.excIn K C [.type "ValueError", .type "Exception", .type "BaseException", .type "object"] "ValueError.__new__" = true)
    (c : PySem.W.keepIn K (.ref C) = true) (d : PySem.W.subIn K (.ref C) (.type "BaseException") = some true) (e : PySem.W.typeIn K (.ref C) = some (.type "type")) : ExcAt K mg n := ⟨C, PySem.W.mg_of KX G a, b, c, d, e⟩
theorem xs_raiseE {cn m : Str} {j : Nat} {p p3 : Pos} (hc : X.calm = true) (tk : Takes X (fun cls d _ H => E cls d H)) (e : ExcAt X.K X.mg cn) (hg : Gl X cn := by rfl) (hdb : (cn == ("__debug__" : Str)) = false := by decide) :
    XS X E (.Raise (some (.Call (.Name cn p) [.Constant (.str m) j p2] [] p3)) none pos) (raiseS cn) := by
  obtain ⟨C, gC, q, kC, b, t⟩ := e.ex
  exact xs_raise hc tk (pmk_own PySem.F.excBase_ValueError q gC kC (raises_own b t) hg hdb) gC
end
end
end Px
namespace Px
open PySem L2
noncomputable section
/-- e; as a statement -/
def dropS (f : Env → R Px.D) : Env → Out := fun L => (f L).out fun _ => .next L
/-- try: body, except S as e: a suite that answers r at an exception of class c -/
def tryS (g : Env → Out) (c : Str) (r : PD) : Env → Out := fun L => match g L with
  | .exc c' => cif (c' = c) (.ret (.val r)) .bad
  | o => o
/-- what is told of an own exception class: it is made, it is caught by S, its kind is asked for -/
structure ExcIs (K : PySem.W.Frag) (mg : Str → Option Value) (c s : Str) (no : List Str) : Prop where
  val : mg "ValueError" = none
  ex : ∃ C S : Addr, mg c = some (.ref C) ∧ mg s = some (.ref S) ∧ PySem.W.exmOne K (.ref C) (.ref S) = some true ∧ (PySem.W.clsIn K C).isSome = true ∧ PySem.W.findIn K (.ref C) "__getattribute__" = some (some (.builtin "BaseException.__getattribute__")) ∧
    (∃ gt, PySem.W.findIn K (.ref C) "__getattr__" = some gt) ∧ PySem.W.subIn K (.ref C) (.type "BaseException") = some true ∧ PySem.W.findIn K (.ref C) "__class__" = some (some (.builtin "object.__class__")) ∧
    PySem.W.specialIn K (.builtin "object.__class__") "__get__" = some (some (.builtin "getset_descriptor.__get__")) ∧ PySem.W.takesIn K (.builtin "object.__class__") = some true ∧ PySem.W.mroIn K C (.type "object") = some true ∧
    PySem.W.kitOne K (.ref C) (.type "ValueError") = some true ∧ ∀ y ∈ no, ∃ A : Addr, mg y = some (.ref A) ∧ PySem.W.kitOne K (.ref C) (.ref A) = some false
section
variable {X : Cx} {E : XK} {a b e : Expr} {pos pos' p p2 q np : Pos}
theorem xs_drop {f : Env → R Px.D} (he : XF X E e f) (hs : swapsWith e none pos.line X.env = pure false := by rfl) : XS X E (.Expr e pos) (dropS f) :=
  psW (ps_expr he hs) fun D σ H ⟨F, M, G, L, lr, q⟩ => ⟨F, M, G, L, lr, (OkS.of q).imp fun d G2 H2 _ _ _ lr2 p v hv => by
    cases d with
    | val d => exact p σ M G2 H2 (Same.refl _) lr2
    | own ds => exact p σ M G2 H2 (Same.refl _) lr2
    | dic ds => exact p σ M G2 H2 (Same.refl _) lr2⟩
/-- isinstance(e, Y), e the exception that is caught -/
theorem call_isE {a : Addr} {oe : Obj} {C : Addr} {pn : List (Addr × Obj)} (hz : Zc (.ref C) none oe) (hf : ∃ vs, oe.data = .fields vs) (hcl : (PySem.W.clsIn X.K C).isSome = true) (hga : PySem.W.findIn X.K (.ref C) "__getattribute__" = some (some (.builtin "BaseException.__getattribute__")))
    {gt : Option Value} (hgt : PySem.W.findIn X.K (.ref C) "__getattr__" = some gt) (hsub : PySem.W.subIn X.K (.ref C) (.type "BaseException") = some true) (ha : PySem.W.findIn X.K (.ref C) "__class__" = some (some (.builtin "object.__class__")))
    (hn : PySem.W.specialIn X.K (.builtin "object.__class__") "__get__" = some (some (.builtin "getset_descriptor.__get__"))) (htk : PySem.W.takesIn X.K (.builtin "object.__class__") = some true) (hm : PySem.W.mroIn X.K C (.type "object") = some true) :
    CallR (X.suite a ((a, oe) :: pn)) (.builtin "isinstance") (fun xs H Q => ∃ (c : V) (u : Value) (b : Bool), xs = [.ref a, c] ∧ ClsV c u ∧ PySem.W.kitOne X.K (.ref C) u = some b ∧ Q (.bl b) H) := by
  intro pins s σ H xs us Q I r h
  obtain ⟨c, u, b, rfl, k, e, q⟩ := h
  obtain ⟨u1, u2, rfl, r1, r2⟩ := L2.vals2 r
  have e2 := k.eq r2
  subst e2
  cases (show u1 = Value.ref a from r1)
  have pin := I.pin (a, oe) (List.mem_append_left _ List.mem_cons_self)
  obtain ⟨vs, hd⟩ := hf
  obtain ⟨h1, h2⟩ := hz
  have hI : PySem.W.InstAt s.heap a oe C none := ⟨pin.1, h1, by unfold PySem.W.notCls; rw [hd], by rw [h2]; trivial⟩
  exact PySem.W.kia_one (PySem.W.kitx_exc hcl hga hgt hsub ha hn htk hm) I.kIn hI e (fun z => nomatch z) fun tk => ⟨.bl b, H, I.tok tk, rfl, q⟩
def tIs (i : Nat) (a : Addr) (b : Bool) : TE := fun σ H Q => σ[i]? = some (some (.ref a)) ∧ Q (.bl b) H
theorem pe_isE {a A : Addr} {oe : Obj} {C : Addr} {pn : List (Addr × Obj)} {i : Nat} {n y : Str} {b : Bool} (hc : CallR (X.suite a ((a, oe) :: pn)) (.builtin "isinstance") (fun xs H Q => ∃ (c : V) (u : Value) (b : Bool), xs = [.ref a, c] ∧ ClsV c u ∧ PySem.W.kitOne X.K (.ref C) u = some b ∧ Q (.bl b) H))
    (hk : PySem.W.kitOne X.K (.ref C) (.ref A) = some b) (hgi : Gl X "isinstance") (hmi : X.mg "isinstance" = none) (hN : X.N[i]? = some n) (hv : Vis X.env.scope n) (hd : (n == ("__debug__" : Str)) = false) (hcd : (n == ("__classdict__" : Str)) = false)
    (hgy : Gl X y) (hmy : X.mg y = some (.ref A)) (hdy : (y == ("__debug__" : Str)) = false) : PE (X.suite a ((a, oe) :: pn)) (.Call (.Name "isinstance" p) [.Name n q, .Name y p2] [] pos) (tIs i a b) :=
  peW (pe_callB hc hgi hmi (by decide +kernel) (pa_cons (pe_var (i := i) hN hv hd hcd) (pa_cons (pe_glob (v := .ref A) hgy hmy rfl hdy) pa_nil))) fun σ H Q ⟨e, q⟩ => ⟨.ref a, e, .ref A, _, b, rfl, .own A, hk, q⟩
theorem pe_isV {a : Addr} {oe : Obj} {C : Addr} {pn : List (Addr × Obj)} {i : Nat} {n : Str} {b : Bool} (hc : CallR (X.suite a ((a, oe) :: pn)) (.builtin "isinstance") (fun xs H Q => ∃ (c : V) (u : Value) (b : Bool), xs = [.ref a, c] ∧ ClsV c u ∧ PySem.W.kitOne X.K (.ref C) u = some b ∧ Q (.bl b) H))
    (hk : PySem.W.kitOne X.K (.ref C) (.type "ValueError") = some b) (hgi : Gl X "isinstance") (hmi : X.mg "isinstance" = none) (hN : X.N[i]? = some n) (hv : Vis X.env.scope n) (hd : (n == ("__debug__" : Str)) = false) (hcd : (n == ("__classdict__" : Str)) = false)
    (hgy : Gl X "ValueError") (hmy : X.mg "ValueError" = none) : PE (X.suite a ((a, oe) :: pn)) (.Call (.Name "isinstance" p) [.Name n q, .Name "ValueError" p2] [] pos) (tIs i a b) :=
  peW (pe_callB hc hgi hmi (by decide +kernel) (pa_cons (pe_var (i := i) hN hv hd hcd) (pa_cons (pe_bltn (v := .ty "ValueError") hgy hmy (by decide +kernel) rfl) pa_nil))) fun σ H Q ⟨e, q⟩ => ⟨.ref a, e, .ty "ValueError", _, b, rfl, .ty "ValueError", hk, q⟩
/-- some == [False] * 4 -/
def no4 (j : Nat) : Env → R PD := bvE (op2 eqP (varB j) (fzE (op2 repP (fzE (lstE [constE (.bool false)])) (constE (.int 4)))))
def four : List PD := [.bool false, .bool false, .bool false, .bool false]
theorem no4_val {j : Nat} {L : Env} (h : getE L j = some (.own four)) : no4 j L = .ok (.bool true) := by
  have h1 : eqP (.list four) (.list four) = .ok (PyData.eqv (.list four) (.list four)) := cif_pos ⟨by decide +kernel, by decide +kernel⟩
  have h2 : repP (.list [.bool false]) (.int 4) = .ok (.own four) := cif_pos (by decide)
  have h3 : PyData.eqv (.list four) (.list four) = true := by decide +kernel
  rw [h3] at h1
  unfold no4 bvE op2 varB fzE lstE argsE argsE constE
  rw [h]
  show bV ((R.bind (R.bind (repP (.list [.bool false]) (.int 4)) fz) fun y => eqP (.list four) y)) = _
  rw [h2]
  show bV (eqP (.list four) (.list four)) = _
  rw [h1]
  rfl
theorem pe_flag {Xs : Cx} {i j : Nat} {a : Addr} {e0 eV ec : Expr} (h0 : PE Xs e0 (tIs i a true)) (hV : PE Xs eV (tIs i a true)) (hc : XE Xs E ec (no4 j)) :
    PE Xs (.BoolOp .And [e0, eV, ec] pos) (fun σ H Q => σ[i]? = some (some (.ref a)) ∧ (∃ F M G L, LR Xs.K F M G H σ L ∧ getE L j = some (.own four)) ∧ ∀ H', Same H H' → Q (.bl true) H') :=
  peW (pe_and h0 (pe_and hV (pe_one hc))) fun σ H Q ⟨e, ⟨F, M, G, L, lr, hj⟩, q⟩ => ⟨e, true, rfl, ⟨e, true, rfl, ⟨F, M, G, L, lr, by
    rw [no4_val hj]
    exact fun G2 H2 _ e2 _ v hv => by cases hv; exact q H2 e2⟩⟩⟩
theorem getE_set_eq : ∀ (L : Env) (j : Nat) (d : Option Px.D), j < L.length → getE (setE L j d) j = d
  | [], j, d, h => absurd h (Nat.not_lt_zero j)
  | x :: r, 0, d, h => rfl
  | x :: r, j + 1, d, h => getE_set_eq r j d (Nat.lt_of_succ_lt_succ h)
theorem getE_rep : ∀ (n j : Nat), getE (List.replicate n none) j = none
  | 0, j => by cases j <;> rfl
  | n + 1, 0 => rfl
  | n + 1, j + 1 => getE_rep n j
/-- the state that a list of four of the suite's own is in -/
theorem lr_four {K : PySem.W.Frag} {H : Hp} {σ : St} {j : Nat} {p : Addr} (hj : j < σ.length) (np : H p = none) : LR K H (upd noHp p (.lst [.bl false, .bl false, .bl false, .bl false])) noHp (upd H p (.lst [.bl false, .bl false, .bl false, .bl false])) (σ.set j (some (.ref p))) (setE (List.replicate σ.length none) j (some (.own four))) := by
  have get : ∀ {k d}, getE (setE (List.replicate σ.length none) j (some (.own four))) k = some d → k = j ∧ d = .own four := fun {k d} h => by
    by_cases e : k = j
    · subst e
      rw [getE_set_eq _ _ _ (by rw [List.length_replicate]; exact hj)] at h
      cases h
      exact ⟨rfl, rfl⟩
    · rw [getE_set_ne _ _ _ _ e, getE_rep] at h
      cases h
  refine ⟨same_new np, fun b o h => ?_, same_none, fun b o h => ?_, fun _ _ _ => rfl, fun _ _ _ => rfl, fun k d h => ?_, by rw [setE_len, List.length_replicate, List.length_set], fun k l c dk dl e1 e2 _ _ _ _ => by rw [(get e1).1, (get e2).1]⟩
  · by_cases e : b = p
    · subst e
      rw [upd_same] at h ⊢
      exact h
    · rw [upd_ne e] at h
      cases h
  · rw [upd_ne (ne_of_none h np)]
  · obtain ⟨rfl, rfl⟩ := get h
    exact ⟨p, _, List.getElem?_set_self hj, upd_same, .cons (.bl false) (.cons (.bl false) (.cons (.bl false) (.cons (.bl false) .nil)))⟩
/-- what the suite promises: the answer r -/
def tSu (K : PySem.W.Frag) (i : Nat) (a : Addr) (len : Nat) (r : PD) : TS := fun D σ H => σ[i]? = some (some (.ref a)) ∧ σ.length = len ∧ ∃ F G : Hp, Same F H ∧ Same G H ∧ (∀ b o, F b = some o → G b = none) ∧
  ∀ v G' H', Same G G' → Same F H' → Same G' H' → (∀ b o, F b = some o → G' b = none) → Dq K G' v r → D.rt v H'
theorem su_set {Xs : Cx} {i j : Nat} {a : Addr} {y : Str} {e1 e2 e3 e4 er : Expr} {pl : Pos} {te : TE} {r : PD} (ij : i ≠ j) (hN : Xs.N.Nodup) (hj : Xs.N[j]? = some y) (hx : Loc Xs.env.scope y) (h1 : PE Xs e1 (tIs i a false)) (h2 : PE Xs e2 (tIs i a false)) (h3 : PE Xs e3 (tIs i a false)) (h4 : PE Xs e4 (tIs i a false))
    (hs : swapsWith (.List [e1, e2, e3, e4] pl) (some (.Name y pos')) pos.line Xs.env = pure false) (hf : Xs.fn y = true ∨ Xs.env.scope.names.lookup y = some .local)
    (s1 : starEach [e1, e2, e3, e4] Xs.env = (false, eval e1 Xs.env) :: starEach [e2, e3, e4] Xs.env) (s2 : starEach [e2, e3, e4] Xs.env = (false, eval e2 Xs.env) :: starEach [e3, e4] Xs.env) (s3 : starEach [e3, e4] Xs.env = (false, eval e3 Xs.env) :: starEach [e4] Xs.env) (s4 : starEach [e4] Xs.env = (false, eval e4 Xs.env) :: starEach [] Xs.env)
    (hr : PE Xs er te) (ht : ∀ {σ : St} {H H1 : Hp} {F G : Hp} {Q : VK}, σ[i]? = some (some (.ref a)) → (∃ F M G L, LR Xs.K F M G H1 σ L ∧ getE L j = some (.own four)) → Same H H1 → Same F H → Same G H → (∀ b o, F b = some o → G b = none) →
      (∀ v G' H', Same G G' → Same F H' → Same G' H' → (∀ b o, F b = some o → G' b = none) → Dq Xs.K G' v r → Q v H') → te σ H1 Q) :
    PSs Xs [.Assign [.Name y pos'] (.List [e1, e2, e3, e4] pl) pos, .Return (some er) p2] (tSu Xs.K i a Xs.N.length r) :=
  pssW (pss_cons (ps_set hN hj hx (pe_lst (pa_cons h1 (pa_cons h2 (pa_cons h3 (pa_cons h4 pa_nil s4) s3) s2) s1)) hs hf) (pss_one (ps_ret hr))) fun D σ H ⟨e, hl, F, G, f, g, fg, k⟩ => by
    have jl : j < σ.length := by rw [hl]; exact (List.getElem?_eq_some_iff.mp hj).1
    refine ⟨e, e, e, e, by show 4 ≤ sizeLine; decide, fun p np => ?_⟩
    refine ht (H := H) (F := F) (G := G) ?_ ⟨_, _, _, _, lr_four jl np, ?_⟩ (same_new np) f g fg k
    · rw [List.getElem?_set_ne (fun z => ij z.symm)]
      exact e
    · exact getE_set_eq _ _ _ (by rw [List.length_replicate]; exact jl)
/-- return the flag itself -/
theorem su_flag {Xs : Cx} {i j : Nat} {a : Addr} {y : Str} {e1 e2 e3 e4 e0 eV ec : Expr} {pl pf : Pos} (ij : i ≠ j) (hN : Xs.N.Nodup) (hj : Xs.N[j]? = some y) (hx : Loc Xs.env.scope y) (h1 : PE Xs e1 (tIs i a false)) (h2 : PE Xs e2 (tIs i a false)) (h3 : PE Xs e3 (tIs i a false)) (h4 : PE Xs e4 (tIs i a false))
    (hs : swapsWith (.List [e1, e2, e3, e4] pl) (some (.Name y pos')) pos.line Xs.env = pure false) (hf : Xs.fn y = true ∨ Xs.env.scope.names.lookup y = some .local)
    (s1 : starEach [e1, e2, e3, e4] Xs.env = (false, eval e1 Xs.env) :: starEach [e2, e3, e4] Xs.env) (s2 : starEach [e2, e3, e4] Xs.env = (false, eval e2 Xs.env) :: starEach [e3, e4] Xs.env) (s3 : starEach [e3, e4] Xs.env = (false, eval e3 Xs.env) :: starEach [e4] Xs.env) (s4 : starEach [e4] Xs.env = (false, eval e4 Xs.env) :: starEach [] Xs.env)
    (h0 : PE Xs e0 (tIs i a true)) (hV : PE Xs eV (tIs i a true)) (hc : XE Xs E0 ec (no4 j)) :
    PSs Xs [.Assign [.Name y pos'] (.List [e1, e2, e3, e4] pl) pos, .Return (some (.BoolOp .And [e0, eV, ec] pf)) p2] (tSu Xs.K i a Xs.N.length (.bool true)) :=
  su_set ij hN hj hx h1 h2 h3 h4 hs hf s1 s2 s3 s4 (pe_flag h0 hV hc) fun {σ H H1 F G Q} e l s f g fg k => ⟨e, l, fun H' s' => k _ G H' (Same.refl _) ((f.trans s).trans s') ((g.trans s).trans s') fg (.bl true)⟩
/-- return (False, the flag) -/
theorem su_pair {Xs : Cx} {i j : Nat} {a : Addr} {y : Str} {e1 e2 e3 e4 e0 eV ec : Expr} {pl pf pt pk : Pos} {x1 kk : Nat} (ij : i ≠ j) (hN : Xs.N.Nodup) (hj : Xs.N[j]? = some y) (hx : Loc Xs.env.scope y) (h1 : PE Xs e1 (tIs i a false)) (h2 : PE Xs e2 (tIs i a false)) (h3 : PE Xs e3 (tIs i a false)) (h4 : PE Xs e4 (tIs i a false))
    (hs : swapsWith (.List [e1, e2, e3, e4] pl) (some (.Name y pos')) pos.line Xs.env = pure false) (hf : Xs.fn y = true ∨ Xs.env.scope.names.lookup y = some .local)
    (s1 : starEach [e1, e2, e3, e4] Xs.env = (false, eval e1 Xs.env) :: starEach [e2, e3, e4] Xs.env) (s2 : starEach [e2, e3, e4] Xs.env = (false, eval e2 Xs.env) :: starEach [e3, e4] Xs.env) (s3 : starEach [e3, e4] Xs.env = (false, eval e3 Xs.env) :: starEach [e4] Xs.env) (s4 : starEach [e4] Xs.env = (false, eval e4 Xs.env) :: starEach [] Xs.env)
    (h0 : PE Xs e0 (tIs i a true)) (hV : PE Xs eV (tIs i a true)) (hc : XE Xs E0 ec (no4 j)) :
    PSs Xs [.Assign [.Name y pos'] (.List [e1, e2, e3, e4] pl) pos, .Return (some (.Tuple [.Constant (.bool false) kk pk, .BoolOp .And [e0, eV, ec] pf] x1 pt)) p2] (tSu Xs.K i a Xs.N.length (.tuple [.bool false, .bool true])) :=
  su_set ij hN hj hx h1 h2 h3 h4 hs hf s1 s2 s3 s4 (pe_tup (pa_cons pe_bl (pa_cons (pe_flag h0 hV hc) pa_nil))) fun {σ H H1 F G Q} e l s f g fg k => ⟨e, l, fun H' s' => ⟨by show 2 ≤ sizeLine; decide, fun p np => by
    have gp : G p = none := ((g.trans s).trans s').free np
    have fp : F p = none := ((f.trans s).trans s').free np
    refine k (.ref p) (upd G p (.tup [.bl false, .bl true])) _ (same_new gp) (((f.trans s).trans s').trans (same_new np)) (fun b o h => ?_) (fun b o h => ?_) (.tup upd_same (.cons (.bl false) (.cons (.bl true) .nil)))
    · by_cases z : b = p
      · subst z
        rw [upd_same] at h ⊢
        exact h
      · rw [upd_ne z] at h ⊢
        exact ((g.trans s).trans s') b o h
    · rw [upd_ne (ne_of_none h fp)]
      exact fg b o h⟩⟩
/-- try: body, except S as n: suite -/
theorem xs_try {k i : Nat} {n s c : Str} {no : List Str} {body suite : List Stmt} {b₀ : Stmt} {g : Env → Out} {r : PD} (C : Ctx X E k) (tk : Takes X (fun cls d _ H => E cls d H)) (ei : ExcIs X.K X.mg c s no) (hs : X.stack = X.env :: X.outer) (hfr : X.env.frame = some X.env.locals) (hN : X.N.Nodup) (hi : X.N[i]? = some n) (hln : X.env.kindOf n = some .local)
    (hgs : Gl X s) (hds : (s == ("__debug__" : Str)) = false)
    (hb : ∀ (pn : List (Addr × Obj)) (xe : Value → Shared → Prop) (E' : XK), Ctx (X.tr pn xe) E' k → Takes (X.tr pn xe) (fun cls d _ H => E' cls d H) → XSs (X.tr pn xe) E' body g)
    (hsu : ∀ (a : Addr) (oe : Obj) (Ca : Addr) (pn : List (Addr × Obj)), X.mg c = some (.ref Ca) → Zc (.ref Ca) none oe → (∃ vs, oe.data = .fields vs) → PSs (X.suite a ((a, oe) :: pn)) (b₀ :: suite) (tSu X.K i a X.N.length r)) :
    XS X E (.Try body [.ExceptHandler (some (.Name s np)) (some n) (b₀ :: suite) pos'] [] [] pos) (tryS g c r) := by
  obtain ⟨Ca, S, gC, gS, ex, _⟩ := ei.ex
  have il : i < X.N.length := (List.getElem?_eq_some_iff.mp hi).1
  refine psW (ps_try_as (i := i) (c := .ref S) (Wout := fun cls d _ H => E cls d H) (tb := fun W D σ H => ∃ E' : XK, (∀ cls d σ' H', σ'.length = X.N.length → E' cls d H' → W cls d σ' H') ∧ tS X.K X.mg E' g D σ H) (ts := fun a cls d D σ H => cls = .ref Ca ∧ d = none ∧ tSu X.K i a X.N.length r D σ H) hs hfr hN hi hln ⟨hgs, hds, .inl gS⟩ tk (fun W pn xe tk' po => ?_) (fun a oe cls d pn hz hf => ?_)) fun D σ H ⟨F, M, G, L, lr, q⟩ => ?_
  · refine ⟨fun pins s σ H D I h => ?_⟩
    obtain ⟨E', hE, t⟩ := h
    have tk2 : Takes (X.tr pn xe) (fun cls d _ H => E' cls d H) := fun u s' ⟨a, B, sI, pins, σ, H, cls, d, e, I, nb, up, sky, na, os, ag, w⟩ => tk' u s' ⟨a, B, sI, pins, σ, H, cls, d, e, I, nb, up, sky, na, os, ag, hE _ _ _ _ I.len w⟩
    exact (hb pn xe E' ⟨C.room, passes_call tk2 (fun _ _ _ _ h => h), C.calm, po⟩ tk2).run pins s σ H D I t
  · refine ⟨fun pins s σ H D I h => ?_⟩
    obtain ⟨rfl, rfl, h⟩ := h
    exact (hsu a oe Ca pn gC hz hf).run pins s σ H D I h
  · unfold tryS at q
    cases e : g L with
    | exc c' =>
      rw [e] at q
      by_cases ec : c' = c
      · have q2 : OkS X.K X.mg E F G D (cif (c' = c) (.ret (.val r)) .bad) := q
        rw [cif_pos ec] at q2
        clear q
        subst ec
        refine ⟨fun cls d H' => cls = .ref Ca ∧ d = none ∧ Same F H' ∧ Same G H', fun cls d σ' H' hl ⟨e1, e2, f, g'⟩ => ?_, F, M, G, L, lr, ?_⟩
        · subst e1
          subst e2
          refine ⟨true, ex, fun _ a na => ⟨rfl, rfl, List.getElem?_set_self (by rw [hl]; exact il), by rw [List.length_set]; exact hl, F, G, f, g', lr.fg, fun v G' H'' s1 s2 s3 s4 hv => ?_⟩, fun z => by cases z⟩
          exact q2 v G' H'' s1 s2 s3 s4 hv
        · rw [e]
          intro a H' ha f g'
          rw [gC] at ha
          cases ha
          exact ⟨rfl, rfl, f, g'⟩
      · have q : OkS X.K X.mg E F G D (cif (c' = c) (.ret (.val r)) .bad) := q
        rw [cif_neg ec] at q
        exact False.elim q
    | bad =>
      rw [e] at q
      exact False.elim q
    | _ =>
      rw [e] at q
      exact ⟨fun _ _ _ => False, fun _ _ _ _ _ z => z.elim, F, M, G, L, lr, by rw [e]; exact q⟩
theorem kit_self (K : PySem.W.Frag) (C : Addr) : PySem.W.kitOne K (.ref C) (.ref C) = some true := by
  unfold PySem.W.kitOne
  rw [if_pos (by simp)]
section
variable {a : Addr} {oe : Obj} {Ca : Addr} {pn : List (Addr × Obj)} {i : Nat} {n y c s : Str} {no : List Str}
theorem ei_call (ei : ExcIs X.K X.mg c s no) (gC : X.mg c = some (.ref Ca)) (hz : Zc (.ref Ca) none oe) (hf : ∃ vs, oe.data = .fields vs) :
    CallR (X.suite a ((a, oe) :: pn)) (.builtin "isinstance") (fun xs H Q => ∃ (c : V) (u : Value) (b : Bool), xs = [.ref a, c] ∧ ClsV c u ∧ PySem.W.kitOne X.K (.ref Ca) u = some b ∧ Q (.bl b) H) := by
  obtain ⟨C, S, g1, g2, ex, h1, h2, ⟨gt, h3⟩, h4, h5, h6, h7, h8, _⟩ := ei.ex
  rw [gC] at g1
  cases g1
  exact call_isE hz hf h1 h2 h3 h4 h5 h6 h7 h8
theorem pe_no (ei : ExcIs X.K X.mg c s no) (gC : X.mg c = some (.ref Ca)) (hz : Zc (.ref Ca) none oe) (hf : ∃ vs, oe.data = .fields vs) (hy : y ∈ no) (hmi : X.mg "isinstance" = none) (hN : X.N[i]? = some n := by rfl) (hgi : Gl X "isinstance" := by rfl) (hv : Vis X.env.scope n := by first | exact Or.inl rfl | exact Or.inr (Or.inl rfl) | exact Or.inr (Or.inr rfl))
    (hd : (n == ("__debug__" : Str)) = false := by decide) (hcd : (n == ("__classdict__" : Str)) = false := by decide) (hgy : Gl X y := by rfl) (hdy : (y == ("__debug__" : Str)) = false := by decide) : PE (X.suite a ((a, oe) :: pn)) (.Call (.Name "isinstance" p) [.Name n q, .Name y p2] [] pos) (tIs i a false) := by
  have hc := ei_call (a := a) (pn := pn) ei gC hz hf
  obtain ⟨C, S, g1, g2, ex, h1, h2, _, h4, h5, h6, h7, h8, _, h9⟩ := ei.ex
  rw [gC] at g1
  cases g1
  obtain ⟨A, mA, kA⟩ := h9 y hy
  exact pe_isE hc kA hgi hmi hN hv hd hcd hgy mA hdy
theorem pe_yes (ei : ExcIs X.K X.mg c s no) (gC : X.mg c = some (.ref Ca)) (hz : Zc (.ref Ca) none oe) (hf : ∃ vs, oe.data = .fields vs) (hmi : X.mg "isinstance" = none) (hN : X.N[i]? = some n := by rfl) (hgi : Gl X "isinstance" := by rfl) (hv : Vis X.env.scope n := by first | exact Or.inl rfl | exact Or.inr (Or.inl rfl) | exact Or.inr (Or.inr rfl))
    (hd : (n == ("__debug__" : Str)) = false := by decide) (hcd : (n == ("__classdict__" : Str)) = false := by decide) (hgy : Gl X c := by rfl) (hdy : (c == ("__debug__" : Str)) = false := by decide) : PE (X.suite a ((a, oe) :: pn)) (.Call (.Name "isinstance" p) [.Name n q, .Name c p2] [] pos) (tIs i a true) :=
  pe_isE (ei_call (a := a) (pn := pn) ei gC hz hf) (kit_self _ _) hgi hmi hN hv hd hcd hgy gC hdy
theorem pe_val (ei : ExcIs X.K X.mg c s no) (gC : X.mg c = some (.ref Ca)) (hz : Zc (.ref Ca) none oe) (hf : ∃ vs, oe.data = .fields vs) (hmi : X.mg "isinstance" = none) (hN : X.N[i]? = some n := by rfl) (hgi : Gl X "isinstance" := by rfl) (hv : Vis X.env.scope n := by first | exact Or.inl rfl | exact Or.inr (Or.inl rfl) | exact Or.inr (Or.inr rfl))
    (hd : (n == ("__debug__" : Str)) = false := by decide) (hcd : (n == ("__classdict__" : Str)) = false := by decide) (hgy : Gl X "ValueError" := by rfl) : PE (X.suite a ((a, oe) :: pn)) (.Call (.Name "isinstance" p) [.Name n q, .Name "ValueError" p2] [] pos) (tIs i a true) := by
  have hc := ei_call (a := a) (pn := pn) ei gC hz hf
  obtain ⟨C, S, g1, g2, ex, h1, h2, _, h4, h5, h6, h7, h8, h9, _⟩ := ei.ex
  rw [gC] at g1
  cases g1
  exact pe_isV hc h9 hgi hmi hN hv hd hcd hgy ei.val
end
theorem kit_cls {K : PySem.W.Frag} {C A : Addr} {b : Bool} (h2 : PySem.W.isClsIn K A = true) (h3 : PySem.W.typeIn K (.ref A) = some (.type "type")) (h4 : PySem.W.subIn K (.ref C) (.ref A) = some b) : PySem.W.kitCls K (.ref C) (.ref A) = some b := by
  have e2 : ((PySem.W.clsIn K A).isSome && PySem.W.typeIn K (.ref A) == some (.type "type")) = true := by
    have h2' : (PySem.W.clsIn K A).isSome = true := h2
    rw [h2', h3] <;> rfl
  show (if ((PySem.W.clsIn K A).isSome && PySem.W.typeIn K (.ref A) == some (.type "type")) = true then PySem.W.subIn K (.ref C) (.ref A) else none) = some b
  rw [if_pos e2]
  exact h4
theorem kit_other {K : PySem.W.Frag} {C A : Addr} (ne : C ≠ A) (h2 : PySem.W.isClsIn K A = true) (h3 : PySem.W.typeIn K (.ref A) = some (.type "type")) (h4 : PySem.W.subIn K (.ref C) (.ref A) = some false) : PySem.W.kitOne K (.ref C) (.ref A) = some false := by
  unfold PySem.W.kitOne
  rw [if_neg (fun h => ne (by simpa using h))]
  exact kit_cls h2 h3 h4
theorem kit_value {K : PySem.W.Frag} {C : Addr} (h : PySem.W.subIn K (.ref C) (.type "ValueError") = some true) : PySem.W.kitOne K (.ref C) (.type "ValueError") = some true := by
  unfold PySem.W.kitOne
  rw [if_neg (fun h : (Value.ref C == Value.type "ValueError") = true => by have e := eq_of_beq h; cases e)]
  show (if PySem.W.kitMeta "ValueError" = true then PySem.W.subIn K (.ref C) (.type "ValueError") else none) = _
  rw [if_pos (by decide +kernel)]
  exact h
theorem exm_sub {K : PySem.W.Frag} {C S : Addr} (h1 : PySem.W.subIn K (.ref S) (.type "BaseException") = some true) (h2 : PySem.W.isClsIn K S = true) (h3 : PySem.W.typeIn K (.ref S) = some (.type "type")) (h4 : PySem.W.subIn K (.ref C) (.ref S) = some true) :
    PySem.W.exmOne K (.ref C) (.ref S) = some true := by
  have e1 : (PySem.W.subIn K (.ref S) (.type "BaseException") == some true) = true := by rw [h1] <;> rfl
  show (if (PySem.W.subIn K (.ref S) (.type "BaseException") == some true) = true then PySem.W.kitCls K (.ref C) (.ref S) else none) = some true
  rw [if_pos e1]
  exact kit_cls h2 h3 h4
structure ClsNo (K : PySem.W.Frag) (mg : Str → Option Value) (C : Addr) (y : Str) : Prop where
  ex : ∃ A : Addr, mg y = some (.ref A) ∧ PySem.W.kitOne K (.ref C) (.ref A) = some false
theorem cls_no {K : PySem.W.Frag} {mg : Str → Option Value} {h : Heap} {y : Str} {C A : Addr} (KX : K.In h) (G : h.Ns mainGlobals mg) (a : PySem.W.nsIn K mainGlobals y = some (some (.ref A))) (ne : C ≠ A) (h2 : PySem.W.isClsIn K A = true) (h3 : PySem.W.typeIn K (.ref A) = some (.type "type")) (h4 : PySem.W.subIn K (.ref C) (.ref A) = some false) : ClsNo K mg C y :=
  ⟨A, PySem.W.mg_of KX G a, kit_other ne h2 h3 h4⟩
theorem exis_of {K : PySem.W.Frag} {mg : Str → Option Value} {h : Heap} {c s y1 y2 y3 y4 : Str} (KX : K.In h) (G : h.Ns mainGlobals mg) {C S : Addr} {gt : Option Value} (v : PySem.W.nsIn K mainGlobals "ValueError" = some none)
    (a : PySem.W.nsIn K mainGlobals c = some (some (.ref C))) (b : PySem.W.nsIn K mainGlobals s = some (some (.ref S))) (s1 : PySem.W.subIn K (.ref S) (.type "BaseException") = some true) (s2 : PySem.W.isClsIn K S = true) (s3 : PySem.W.typeIn K (.ref S) = some (.type "type")) (s4 : PySem.W.subIn K (.ref C) (.ref S) = some true)
    (h1 : PySem.W.isClsIn K C = true) (h2 : PySem.W.findIn K (.ref C) "__getattribute__" = some (some (.builtin "BaseException.__getattribute__")))
    (h3 : PySem.W.findIn K (.ref C) "__getattr__" = some gt) (h4 : PySem.W.subIn K (.ref C) (.type "BaseException") = some true) (h5 : PySem.W.findIn K (.ref C) "__class__" = some (some (.builtin "object.__class__"))) (h6 : PySem.W.specialIn K (.builtin "object.__class__") "__get__" = some (some (.builtin "getset_descriptor.__get__")))
    (h7 : PySem.W.takesIn K (.builtin "object.__class__") = some true) (h8 : PySem.W.mroIn K C (.type "object") = some true) (h9 : PySem.W.subIn K (.ref C) (.type "ValueError") = some true)
    (n1 : ClsNo K mg C y1) (n2 : ClsNo K mg C y2) (n3 : ClsNo K mg C y3) (n4 : ClsNo K mg C y4) : ExcIs K mg c s [y1, y2, y3, y4] :=
  ⟨PySem.W.mg_none_of KX G v, C, S, PySem.W.mg_of KX G a, PySem.W.mg_of KX G b, exm_sub s1 s2 s3 s4, h1, h2, ⟨gt, h3⟩, h4, h5, h6, h7, h8, kit_value h9, fun y hy => by
    simp only [List.mem_cons, List.not_mem_nil, or_false] at hy
    rcases hy with rfl | rfl | rfl | rfl
    · exact n1.ex
    · exact n2.ex
    · exact n3.ex
    · exact n4.ex⟩
end
end
end Px
namespace Px
open PySem L2
noncomputable section
structure BkTxt (K : PySem.W.Frag) : Prop where
  ex : ∃ C : Addr, PySem.W.nsIn K mainGlobals "Book" = some (some (.ref C)) ∧ Cls K C ∧ NoAttr K C "many" ∧ NoAttr K C "held"
/-- a method stands there -/
structure HasM (K : PySem.W.Frag) (nm qual : Str) (st : Stmt) (ps : List Str) : Prop where
  ex : ∃ (C a : Addr) (fd : FuncData), PySem.W.nsIn K mainGlobals "Book" = some (some (.ref C)) ∧ Cls K C ∧ Meth K C nm a ∧ Fun K nm qual st a fd ∧ ∀ us : List Value, us.length = ps.length → bindArgs fd ⟨us, []⟩ = pure (ps.zip us)
/-- a method keeps its contract -/
structure FctM (P : Program) (w : World) (K : PySem.W.Frag) (mg : Str → Option Value) (base : Heap) (nm : Str) (ps : List Str) (k : Nat) (fc : List PD → R D) : Prop where
  ex : ∃ (C a : Addr) (fd : FuncData), PySem.W.nsIn K mainGlobals "Book" = some (some (.ref C)) ∧ Cls K C ∧ Meth K C nm a ∧ Binds K fd ps [] ∧ FnOk P w K mg base (L2.CX P w) k a fd ps (spF K mg ps.length fc)
theorem bk_at {K : PySem.W.Frag} {C : Addr} (hC : PySem.W.nsIn K mainGlobals "Book" = some (some (.ref C))) {H : Hp} {v : V} {n : Int} {ds : List PD} (h : Dq K H v (bkD n ds)) :
    ∃ a dx l xs, v = .ref a ∧ H a = some (.ins C dx [("many", .int n), ("held", .ref l)]) ∧ H l = some (.lst xs) ∧ DqAll K H xs ds := by
  cases h with
  | book c q l a =>
    rw [hC] at c
    cases c
    exact ⟨_, _, _, _, rfl, q, l, a⟩
theorem bres_bk {K : PySem.W.Frag} {G H : Hp} {v : V} {n : Int} {ds : List PD} (h : BRes K G H v (bkD n ds)) : Dq K G v (bkD n ds) := by
  rcases h with h | ⟨a, xs, es, e1, e2, _⟩
  · exact h
  · cases e2
def manyP : PD → R PD
  | .dict [(.int n, .list _)] => .ok (.int n)
  | _ => .bad
def heldP : PD → R PD
  | .dict [(.int _, .list ds)] => .ok (.list ds)
  | _ => .bad
def selfP : PD → R PD
  | .dict [(.int n, .list ds)] => .ok (bkD n ds)
  | _ => .bad
theorem lk_many {x : V} {y : V} : List.lookup ("many" : Str) [("many", x), ("held", y)] = some x := by
  have e : (("many" : Str) == "many") = true := by decide
  simp only [List.lookup, e]
theorem lk_held {x : V} {y : V} : List.lookup ("held" : Str) [("many", x), ("held", y)] = some y := by
  have e : (("held" : Str) == "many") = false := by decide
  have e2 : (("held" : Str) == "held") = true := by decide
  simp only [List.lookup, e, e2]
theorem lk_no {x : V} {y : V} {m : Str} (h1 : (m == ("many" : Str)) = false) (h2 : (m == ("held" : Str)) = false) : List.lookup m [("many", x), ("held", y)] = none := by
  simp only [List.lookup, h1, h2]
theorem ok_self {K : PySem.W.Frag} {mg : Str → Option Value} {E : XK} {F M G H : Hp} {L : Env} {σ : St} {α : Type} {P : α → Hp → Hp → Prop} {d : PD} {f : PD → R α} (q : OkR K mg E F M G L H σ P ((selfP d).bind f)) : ∃ n ds, d = bkD n ds ∧ OkR K mg E F M G L H σ P (f (bkD n ds)) := by
  unfold selfP at q
  split at q
  · exact ⟨_, _, rfl, q⟩
  · exact False.elim q
section
variable {X : Cx} {E : XK} {a b c : Expr} {fa fb fo : Env → R PD} {pos apos : Pos}
theorem xe_many (T : BkTxt X.K) (ha : XB X E a fa) (hb : attributeBase a "many" X.env (eval a X.env) = eval a X.env := by rfl) : XE X E (.Attribute a "many" pos) (op1 manyP fa) :=
  peW (pe_fld ha hb) fun σ H Q ⟨F, M, G, L, lr, q⟩ => ⟨F, M, G, L, lr, (OkR.seq q).imp fun d G1 H1 _ _ _ lr1 p v hv => by
    unfold manyP at p
    split at p
    · obtain ⟨C, hC, cl, nM, nH⟩ := T.ex
      obtain ⟨a, dx, l, xs, ev, ha, hl, hx⟩ := bk_at hC (bres_bk hv)
      exact ⟨a, C, dx, _, _, ev, lr1.g _ _ ha, cl, nM, lk_many, OkR.here p lr1 _ (.int _)⟩
    · exact False.elim p⟩
theorem xe_held (T : BkTxt X.K) (ha : XB X E a fa) (hb : attributeBase a "held" X.env (eval a X.env) = eval a X.env := by rfl) : XE X E (.Attribute a "held" pos) (op1 heldP fa) :=
  peW (pe_fld ha hb) fun σ H Q ⟨F, M, G, L, lr, q⟩ => ⟨F, M, G, L, lr, (OkR.seq q).imp fun d G1 H1 _ _ _ lr1 p v hv => by
    unfold heldP at p
    split at p
    · obtain ⟨C, hC, cl, nM, nH⟩ := T.ex
      obtain ⟨a, dx, l, xs, ev, ha, hl, hx⟩ := bk_at hC (bres_bk hv)
      exact ⟨a, C, dx, _, _, ev, lr1.g _ _ ha, cl, nH, lk_held, OkR.here p lr1 _ (.lst hl hx)⟩
    · exact False.elim p⟩
/-- a call's promise, from what is read -/
theorem call_sp {K : PySem.W.Frag} {mg : Str → Option Value} {F M G1 H1 : Hp} {σ : St} {L : Env} {Q : VK} {n : Nat} {fc : List PD → R D} {vs : List V} {ds : List PD} (lr1 : LR K F M G1 H1 σ L) (hvs : DqAll K G1 vs ds) (hn : ∀ ds, ds.length ≠ n → fc ds = .bad)
    (p : OkR K mg E F M G1 L H1 σ (fun d G2 H2 => ∀ v, DRes K F M G2 H2 v d → Q v H2) (fc ds)) : spF K mg n fc vs H1 Q E := by
  have hlen : ds.length = n := by
    by_cases e : ds.length = n
    · exact e
    · rw [hn ds e] at p
      exact False.elim p
  have fr : ∀ a o, restOf G1 H1 a = some o → G1 a = none := fun a o e => by
    unfold restOf at e
    split at e
    · assumption
    · cases e
  have sf : Same (restOf G1 H1) H1 := fun a o e => by
    unfold restOf at e
    split at e
    · exact e
    · cases e
  have inR : ∀ {a o}, G1 a = none → H1 a = some o → restOf G1 H1 a = some o := fun {a o} e h => by
    unfold restOf
    rw [if_pos e]
    exact h
  refine ⟨restOf G1 H1, G1, ds, sf, lr1.g, fr, hvs, hlen, ?_⟩
  cases e : fc ds with
  | ok d =>
    rw [e] at p
    intro v G' H' g1 f1 g2 fg hv
    have sf' : ∀ {A : Hp}, Same A H1 → (∀ a o, A a = some o → G1 a = none) → Same A H' := fun {A} s d b o h => f1 b o (inR (d b o h) (s b o h))
    have all : Same H1 H' := fun b o h => by
      cases e2 : G1 b with
      | none => exact f1 b o (inR e2 h)
      | some u =>
        have e3 := lr1.g _ _ e2
        rw [h] at e3
        cases e3
        exact g2 _ _ (g1 _ _ e2)
    have lr2 : LR K F M G' H' σ L := lr1.mono g1 g2 (sf' lr1.f lr1.fg) (sf' lr1.m lr1.mg) (fun b o h => fg b o (inR (lr1.fg b o h) (lr1.f b o h))) (fun b o h => fg b o (inR (lr1.mg b o h) (lr1.m b o h)))
    have notIn : ∀ {A : Hp} {b : Addr}, Same A H1 → (∀ a o, A a = some o → G1 a = none) → restOf G1 H1 b = none → A b = none := fun {A b} s d h => by
      cases e2 : A b with
      | none => rfl
      | some o =>
        rw [inR (d b o e2) (s b o e2)] at h
        cases h
    refine p G' H' g1 all lr2 v ?_
    cases d with
    | val d => exact hv
    | own es =>
      obtain ⟨z, xs, ev, gp, fp, _, hp, hd⟩ := hv
      exact ⟨z, xs, ev, gp, notIn lr1.f lr1.fg fp, notIn lr1.m lr1.mg fp, hp, hd⟩
    | dic es =>
      obtain ⟨z, xs, ev, gp, fp, _, hp, hd⟩ := hv
      exact ⟨z, xs, ev, gp, notIn lr1.f lr1.fg fp, notIn lr1.m lr1.mg fp, hp, hd⟩
  | exc c =>
    rw [e] at p
    intro b H' hb f1 g1
    exact p b H' hb (fun b o h => f1 b o (inR (lr1.fg b o h) (lr1.f b o h))) g1
  | bad =>
    rw [e] at p
    exact p
def callM0 (fc : List PD → R D) (fo : Env → R PD) : Env → R D := fun L => (fo L).bind fun d => (selfP d).bind fun s => fc [s]
def callM (fc : List PD → R D) (fo : Env → R PD) (fs : Env → R (List PD)) : Env → R D := fun L => (fo L).bind fun d => (selfP d).bind fun s => (fs L).bind fun ds => fc (s :: ds)
theorem xf_callM0 {k j : Nat} {o : Expr} {m : Str} {ps : List Str} {fc : List PD → R D} {pl : Sem Bool} (C : Ctx X E k) (Fc : FctM X.prog X.w X.K X.mg X.base m ps j fc) (hj : j ≤ k) (hn : ∀ ds, ds.length ≠ ps.length → fc ds = .bad) (ho : XE X E o fo)
    (h1 : (m == ("many" : Str)) = false := by decide) (h2 : (m == ("held" : Str)) = false := by decide)
    (ht : eval (.Call (.Attribute o m apos) [] [] pos) X.env = (do
      let ov ← eval o X.env
      standAt apos.atName
      let (f, first) ← holding [ov] (getMethod ov m pl)
      callWith pos f first (backTo pos (starEach [] X.env)) (backToKw pos (keywordEach [] X.env))) := by rfl) : XF X E (.Call (.Attribute o m apos) [] [] pos) (callM0 fc fo) := by
  obtain ⟨Cl, f, fd, hC, cl, hm, hb, Fk⟩ := Fc.ex
  refine peW (pe_meth0 ho cl hm Fk (C.room.mono hj) hb .nil C.pass ht) fun σ H Q ⟨F, M, G, L, lr, q⟩ => ⟨F, M, G, L, lr, (OkR.seq q).imp fun d G1 H1 _ _ _ lr1 p v hv => ?_⟩
  obtain ⟨n, ds, ed, p⟩ := ok_self p
  subst ed
  obtain ⟨a, dx, l, xs, ev, ha, hl, hx⟩ := bk_at hC hv
  subst ev
  exact ⟨a, dx, _, rfl, lr1.g _ _ ha, lk_no h1 h2, call_sp lr1 (.cons hv .nil) hn p⟩
theorem xf_callM {k j : Nat} {o e : Expr} {es : List Expr} {m : Str} {ps : List Str} {fc : List PD → R D} {fs : Env → R (List PD)} {pl : Sem Bool} (C : Ctx X E k) (Fc : FctM X.prog X.w X.K X.mg X.base m ps j fc) (hj : j ≤ k) (hn : ∀ ds, ds.length ≠ ps.length → fc ds = .bad) (ho : XE X E o fo)
    (ha : XA X E (e :: es) fs) (h1 : (m == ("many" : Str)) = false := by decide) (h2 : (m == ("held" : Str)) = false := by decide)
    (hst : starEach (e :: es) X.env = (false, eval e X.env) :: starEach es X.env := by rfl) (hpl : (backTo pos (starEach es X.env)).any (·.1) = false := by rfl)
    (ht : eval (.Call (.Attribute o m apos) (e :: es) [] pos) X.env = (do
      let ov ← eval o X.env
      standAt apos.atName
      let (f, first) ← holding [ov] (getMethod ov m pl)
      callWith pos f first (backTo pos (starEach (e :: es) X.env)) (backToKw pos (keywordEach [] X.env))) := by rfl) : XF X E (.Call (.Attribute o m apos) (e :: es) [] pos) (callM fc fo fs) := by
  obtain ⟨Cl, f, fd, hC, cl, hm, hb, Fk⟩ := Fc.ex
  refine peW (pe_meth ho cl hm Fk (C.room.mono hj) hb .nil C.pass ha hst hpl ht) fun σ H Q ⟨F, M, G, L, lr, q⟩ => ⟨F, M, G, L, lr, (OkR.seq q).imp fun d G1 H1 _ _ _ lr1 p v hv => ?_⟩
  obtain ⟨n, ds, ed, p⟩ := ok_self p
  subst ed
  obtain ⟨a, dx, l, xs, ev, ha, hl, hx⟩ := bk_at hC hv
  subst ev
  have p : OkR X.K X.mg E F M G1 L H1 σ (fun d G2 H2 => ∀ v, DRes X.K F M G2 H2 v d → Q v H2) ((fs L).bind fun es => fc (bkD n ds :: es)) := p
  refine ⟨a, dx, _, rfl, lr1.g _ _ ha, lk_no h1 h2, F, M, G1, L, lr1, (OkR.seq p).imp fun es G2 H2 _ e1 e2 lr2 p2 ws hws => ?_⟩
  show spF X.K X.mg ps.length fc (V.ref a :: (ws ++ [])) H2 Q E
  rw [List.append_nil]
  exact call_sp lr2 (.cons (dp_mono e1 _ _ hv) hws) hn p2
/-- what is not read -/
def badS : Env → Out := fun _ => .bad
theorem xss_bad {sts : List Stmt} : XSs X E sts badS := ⟨fun pins s σ H D I h => False.elim (by obtain ⟨_, _, _, _, _, q⟩ := h; exact q)⟩
end
section
variable {P : Program} {w : World} {K : PySem.W.Frag} {mg : Str → Option Value} {base : Heap}
theorem fctM_ok {nm qual : Str} {st : Stmt} {N ps : List Str} {k n m : Nat} {g : Env → Out} {f : List PD → R D} (hf : f = fnE n m g) (hN : N.length = n) (hm : ps.length = m) (Hs : HasM K nm qual st ps) (S : FnScope N ps (defScope st))
    (hbody : ∀ (fa : Addr) (cdv : Value) (A : Around) (outer : List PySem.Env) (s : Shared) (H : Hp) (E : XK), Ctx (cxOf (L2.CX P w) P w K mg base N qual (defScope st) fa cdv A outer s H E) E k →
      Takes (cxOf (L2.CX P w) P w K mg base N qual (defScope st) fa cdv A outer s H E) (fun cls d _ H => E cls d H) → XSs (cxOf (L2.CX P w) P w K mg base N qual (defScope st) fa cdv A outer s H E) E (defBody st) g) :
    FctM P w K mg base nm ps (k + 1) f := by
  subst hf
  subst hN
  subst hm
  obtain ⟨C, a, fd, hC, cl, hm, Fn, hb⟩ := Hs.ex
  exact ⟨C, a, fd, hC, cl, hm, .all hb, fn_ok Fn S fun cdv A outer s H E C tk => hbody a cdv A outer s H E C tk⟩
theorem hasM_of {nm qual : Str} {st : Stmt} {ps : List Str} (b : ∀ (kV doc pm : Value) (an : Option Addr) (cdv ct : Value) (us : List Value), us.length = ps.length → bindArgs (PySem.W.fnOf nm qual (defArgs st) (defBody st) (defScope st) .none kV doc pm an cdv ct) ⟨us, []⟩ = pure (ps.zip us))
    {C f : Addr} {oc : Value} {od an : Option Addr} {osl : Array (Option Value)} {kV doc pm cdv ct : Value} (aC : PySem.W.nsIn K mainGlobals "Book" = some (some (.ref C))) (cl : Cls K C) (a : PySem.W.findIn K (.ref C) nm = some (some (.ref f))) (i : PySem.W.isFn K (.ref f) = true)
    (l : K.lookup f = some ⟨oc, od, .func (PySem.W.fnOf nm qual (defArgs st) (defBody st) (defScope st) .none kV doc pm an cdv ct), osl⟩) (c : PySem.W.codeIn K cdv qual = true) (k : PySem.W.keepIn K (.ref f) = true) : HasM K nm qual st ps :=
  ⟨C, f, _, aC, cl, ⟨a, i, k⟩, fun_mk l c k, b kV doc pm an cdv ct⟩
end
end
end Px
namespace Px
open PySem L2
noncomputable section
def AllNo (K : PySem.W.Frag) (mg : Str → Option Value) (C : Addr) : List Str → Prop
  | [] => True
  | y :: r => ClsNo K mg C y ∧ AllNo K mg C r
theorem AllNo.at {K : PySem.W.Frag} {mg : Str → Option Value} {C : Addr} : ∀ {no : List Str}, AllNo K mg C no → ∀ y ∈ no, ClsNo K mg C y
  | [], _, y, h => by cases h
  | z :: r, ⟨a, b⟩, y, h => by
    rcases List.mem_cons.mp h with e | e
    · rw [e]; exact a
    · exact AllNo.at b y e
theorem exis_ofL {K : PySem.W.Frag} {mg : Str → Option Value} {h : Heap} {c s : Str} {no : List Str} (KX : K.In h) (G : h.Ns mainGlobals mg) {C S : Addr} {gt : Option Value} (v : PySem.W.nsIn K mainGlobals "ValueError" = some none)
    (a : PySem.W.nsIn K mainGlobals c = some (some (.ref C))) (b : PySem.W.nsIn K mainGlobals s = some (some (.ref S))) (s1 : PySem.W.subIn K (.ref S) (.type "BaseException") = some true) (s2 : PySem.W.isClsIn K S = true) (s3 : PySem.W.typeIn K (.ref S) = some (.type "type")) (s4 : PySem.W.subIn K (.ref C) (.ref S) = some true)
    (h1 : PySem.W.isClsIn K C = true) (h2 : PySem.W.findIn K (.ref C) "__getattribute__" = some (some (.builtin "BaseException.__getattribute__")))
    (h3 : PySem.W.findIn K (.ref C) "__getattr__" = some gt) (h4 : PySem.W.subIn K (.ref C) (.type "BaseException") = some true) (h5 : PySem.W.findIn K (.ref C) "__class__" = some (some (.builtin "object.__class__"))) (h6 : PySem.W.specialIn K (.builtin "object.__class__") "__get__" = some (some (.builtin "getset_descriptor.__get__")))
    (h7 : PySem.W.takesIn K (.builtin "object.__class__") = some true) (h8 : PySem.W.mroIn K C (.type "object") = some true) (h9 : PySem.W.subIn K (.ref C) (.type "ValueError") = some true)
    (n : AllNo K mg C no) : ExcIs K mg c s no :=
  ⟨PySem.W.mg_none_of KX G v, C, S, PySem.W.mg_of KX G a, PySem.W.mg_of KX G b, exm_sub s1 s2 s3 s4, h1, h2, ⟨gt, h3⟩, h4, h5, h6, h7, h8, kit_value h9, fun y hy => (n.at y hy).ex⟩
/-- try: body, except S as e: x = r, r by the class -/
def tryN (n : Nat) (g : Env → Out) (c1 : Str) (r1 : PD) (c2 : Str) (r2 : PD) (j : Nat) : Env → Out := fun L => match g L with
  | .exc c => cif (c = c1) (.next (setE (List.replicate n none) j (some (.val r1)))) (cif (c = c2) (.next (setE (List.replicate n none) j (some (.val r2)))) .bad)
  | o => o
/-- what the suite promises: slot j holds r -/
def tSn (K : PySem.W.Frag) (i j : Nat) (a : Addr) (len : Nat) (r : PD) : TS := fun D σ H => σ[i]? = some (some (.ref a)) ∧ σ.length = len ∧ ∃ F G : Hp, Same F H ∧ Same G H ∧ (∀ b o, F b = some o → G b = none) ∧
  ∀ v G' H', Same G G' → Same F H' → Same G' H' → (∀ b o, F b = some o → G' b = none) → Dq K G' v r → D.nx (σ.set j (some v)) H'
theorem lr_one {K : PySem.W.Frag} {F G H : Hp} {σ : St} {i j n : Nat} {v : V} {r : PD} (f : Same F H) (g : Same G H) (fg : ∀ b o, F b = some o → G b = none) (hl : σ.length = n) (hj : j < n) (ij : j ≠ i) (hv : Dq K G v r) :
    LR K F noHp G H ((σ.set j (some v)).set i none) (setE (List.replicate n none) j (some (.val r))) := by
  have get : ∀ {k d}, getE (setE (List.replicate n none) j (some (.val r))) k = some d → k = j ∧ d = .val r := fun {k d} h => by
    by_cases e : k = j
    · subst e
      rw [getE_set_eq _ _ _ (by rw [List.length_replicate]; exact hj)] at h
      cases h
      exact ⟨rfl, rfl⟩
    · rw [getE_set_ne _ _ _ _ e, getE_rep] at h
      cases h
  refine ⟨f, same_none, g, fun _ _ _ => rfl, fg, (fun _ _ h => by cases h), fun k d h => ?_, by rw [setE_len, List.length_replicate, List.length_set, List.length_set, hl], fun k l c dk dl e1 e2 _ _ _ _ => by rw [(get e1).1, (get e2).1]⟩
  obtain ⟨rfl, rfl⟩ := get h
  refine ⟨v, ?_, hv⟩
  rw [List.getElem?_set_ne (fun z => ij z.symm), List.getElem?_set_self (by rw [hl]; exact hj)]
section
variable {X : Cx} {E : XK} {a b e : Expr} {pos pos' p p2 q np : Pos}
theorem xs_tryN {k i j m : Nat} {n s c1 c2 : Str} {no1 no2 : List Str} {body suite : List Stmt} {b₀ : Stmt} {g : Env → Out} {r1 r2 : PD} (C : Ctx X E k) (tk : Takes X (fun cls d _ H => E cls d H)) (e1 : ExcIs X.K X.mg c1 s no1) (e2 : ExcIs X.K X.mg c2 s no2) (hs : X.stack = X.env :: X.outer) (hfr : X.env.frame = some X.env.locals) (hN : X.N.Nodup) (hi : X.N[i]? = some n) (hln : X.env.kindOf n = some .local)
    (hm : X.N.length = m) (hj : j < m) (ij : j ≠ i) (hgs : Gl X s) (hds : (s == ("__debug__" : Str)) = false)
    (hb : ∀ (pn : List (Addr × Obj)) (xe : Value → Shared → Prop) (E' : XK), Ctx (X.tr pn xe) E' k → Takes (X.tr pn xe) (fun cls d _ H => E' cls d H) → XSs (X.tr pn xe) E' body g)
    (hs1 : ∀ (a : Addr) (oe : Obj) (Ca : Addr) (pn : List (Addr × Obj)), X.mg c1 = some (.ref Ca) → Zc (.ref Ca) none oe → (∃ vs, oe.data = .fields vs) → PSs (X.suite a ((a, oe) :: pn)) (b₀ :: suite) (tSn X.K i j a X.N.length r1))
    (hs2 : ∀ (a : Addr) (oe : Obj) (Ca : Addr) (pn : List (Addr × Obj)), X.mg c2 = some (.ref Ca) → Zc (.ref Ca) none oe → (∃ vs, oe.data = .fields vs) → PSs (X.suite a ((a, oe) :: pn)) (b₀ :: suite) (tSn X.K i j a X.N.length r2)) :
    XS X E (.Try body [.ExceptHandler (some (.Name s np)) (some n) (b₀ :: suite) pos'] [] [] pos) (tryN m g c1 r1 c2 r2 j) := by
  subst hm
  obtain ⟨Ca, S, gC, gS, ex1, _⟩ := e1.ex
  obtain ⟨Cb, S', gC2, gS', ex2, _⟩ := e2.ex
  rw [gS] at gS'
  cases gS'
  have il : i < X.N.length := (List.getElem?_eq_some_iff.mp hi).1
  refine psW (ps_try_as (i := i) (c := .ref S) (Wout := fun cls d _ H => E cls d H) (tb := fun W D σ H => ∃ E' : XK, (∀ cls d σ' H', σ'.length = X.N.length → E' cls d H' → W cls d σ' H') ∧ tS X.K X.mg E' g D σ H) (ts := fun a cls d D σ H => d = none ∧ ((cls = .ref Ca ∧ tSn X.K i j a X.N.length r1 D σ H) ∨ (cls = .ref Cb ∧ tSn X.K i j a X.N.length r2 D σ H))) hs hfr hN hi hln ⟨hgs, hds, .inl gS⟩ tk (fun W pn xe tk' po => ?_) (fun a oe cls d pn hz hf => ?_)) fun D σ H ⟨F, M, G, L, lr, q⟩ => ?_
  · refine ⟨fun pins s σ H D I h => ?_⟩
    obtain ⟨E', hE, t⟩ := h
    have tk2 : Takes (X.tr pn xe) (fun cls d _ H => E' cls d H) := fun u s' ⟨a, B, sI, pins, σ, H, cls, d, e, I, nb, up, sky, na, os, ag, w⟩ => tk' u s' ⟨a, B, sI, pins, σ, H, cls, d, e, I, nb, up, sky, na, os, ag, hE _ _ _ _ I.len w⟩
    exact (hb pn xe E' ⟨C.room, passes_call tk2 (fun _ _ _ _ h => h), C.calm, po⟩ tk2).run pins s σ H D I t
  · refine ⟨fun pins s σ H D I h => ?_⟩
    obtain ⟨rfl, ⟨rfl, h⟩ | ⟨rfl, h⟩⟩ := h
    · exact (hs1 a oe Ca pn gC hz hf).run pins s σ H D I h
    · exact (hs2 a oe Cb pn gC2 hz hf).run pins s σ H D I h
  · have one : ∀ {Cx : Addr} {r : PD} {c' : Str}, g L = .exc c' → X.mg c' = some (.ref Cx) → PySem.W.exmOne X.K (.ref Cx) (.ref S) = some true → OkS X.K X.mg E F G D (.next (setE (List.replicate X.N.length none) j (some (.val r)))) →
        (∀ a D' σ' H', tSn X.K i j a X.N.length r D' σ' H' → (none : Option Addr) = none ∧ ((Value.ref Cx = .ref Ca ∧ tSn X.K i j a X.N.length r1 D' σ' H') ∨ (Value.ref Cx = .ref Cb ∧ tSn X.K i j a X.N.length r2 D' σ' H'))) →
        ∃ E' : XK, (∀ cls d σ' H', σ'.length = X.N.length → E' cls d H' → wAs X.K (.ref S) i (fun a cls d D σ H => d = none ∧ ((cls = .ref Ca ∧ tSn X.K i j a X.N.length r1 D σ H) ∨ (cls = .ref Cb ∧ tSn X.K i j a X.N.length r2 D σ H))) (fun cls d _ H => E cls d H) D cls d σ' H') ∧ tS X.K X.mg E' g D σ H := fun {Cx r c'} eg hm ex q2 pick => by
      refine ⟨fun cls d H' => cls = .ref Cx ∧ d = none ∧ Same F H' ∧ Same G H', fun cls d σ' H' hl ⟨e1, e2, f, g'⟩ => ?_, F, M, G, L, lr, ?_⟩
      · subst e1
        subst e2
        refine ⟨true, ex, fun _ a na => pick a _ _ _ ⟨List.getElem?_set_self (by rw [hl]; exact il), by rw [List.length_set]; exact hl, F, G, f, g', lr.fg, fun v G' H'' s1 s2 s3 s4 hv => ?_⟩, fun z => by cases z⟩
        exact q2 (((σ'.set i (some (.ref a))).set j (some v)).set i none) noHp G' H'' s1 (lr_one s2 s3 s4 (by rw [List.length_set]; exact hl) hj ij hv)
      · rw [eg]
        intro a H' ha f g'
        rw [hm] at ha
        cases ha
        exact ⟨rfl, rfl, f, g'⟩
    unfold tryN at q
    cases eg : g L with
    | exc c' =>
      rw [eg] at q
      have q2 : OkS X.K X.mg E F G D (cif (c' = c1) (.next (setE (List.replicate X.N.length none) j (some (.val r1)))) (cif (c' = c2) (.next (setE (List.replicate X.N.length none) j (some (.val r2)))) .bad)) := q
      clear q
      by_cases z1 : c' = c1
      · rw [cif_pos z1] at q2
        subst z1
        exact one eg gC ex1 q2 fun a D' σ' H' h => ⟨rfl, .inl ⟨rfl, h⟩⟩
      · rw [cif_neg z1] at q2
        by_cases z2 : c' = c2
        · rw [cif_pos z2] at q2
          subst z2
          exact one eg gC2 ex2 q2 fun a D' σ' H' h => ⟨rfl, .inr ⟨rfl, h⟩⟩
        · rw [cif_neg z2] at q2
          exact False.elim q2
    | bad =>
      rw [eg] at q
      exact False.elim q
    | _ =>
      rw [eg] at q
      exact ⟨fun _ _ _ => False, fun _ _ _ _ _ z => z.elim, F, M, G, L, lr, by rw [eg]; exact q⟩
/-- x = (e1, e2, e3 or e4): the classes asked for -/
theorem su_three {Xs : Cx} {i j : Nat} {a : Addr} {y : Str} {x1 x2 x3 x4 : Expr} {b1 b2 : Bool} {pl po : Pos} {xl : Nat} (hN : Xs.N.Nodup) (hj : Xs.N[j]? = some y) (hx : Loc Xs.env.scope y) (h1 : PE Xs x1 (tIs i a b1)) (h2 : PE Xs x2 (tIs i a b2)) (h3 : PE Xs x3 (tIs i a false)) (h4 : PE Xs x4 (tIs i a false))
    (hs : swapsWith (.Tuple [x1, x2, .BoolOp .Or [x3, x4] po] xl pl) (some (.Name y pos')) pos.line Xs.env = pure false) (hf : Xs.fn y = true ∨ Xs.env.scope.names.lookup y = some .local)
    (s1 : starEach [x1, x2, .BoolOp .Or [x3, x4] po] Xs.env = (false, eval x1 Xs.env) :: starEach [x2, .BoolOp .Or [x3, x4] po] Xs.env) (s2 : starEach [x2, .BoolOp .Or [x3, x4] po] Xs.env = (false, eval x2 Xs.env) :: starEach [.BoolOp .Or [x3, x4] po] Xs.env) (s3 : starEach [.BoolOp .Or [x3, x4] po] Xs.env = (false, eval (.BoolOp .Or [x3, x4] po) Xs.env) :: starEach [] Xs.env) :
    PSs Xs [.Assign [.Name y pos'] (.Tuple [x1, x2, .BoolOp .Or [x3, x4] po] xl pl) pos] (tSn Xs.K i j a Xs.N.length (.tuple [.bool b1, .bool b2, .bool false])) :=
  pssW (pss_one (ps_set hN hj hx (pe_tup (pa_cons h1 (pa_cons h2 (pa_cons (pe_or h3 (pe_one h4)) pa_nil s3) s2) s1)) hs hf)) fun D σ H ⟨e, hl, F, G, f, g, fg, k⟩ => by
    refine ⟨e, e, e, false, rfl, ⟨e, by show 3 ≤ sizeLine; decide, fun p np => ?_⟩⟩
    have gp : G p = none := g.free np
    have fp : F p = none := f.free np
    refine k (.ref p) (upd G p (.tup [.bl b1, .bl b2, .bl false])) _ (same_new gp) (f.trans (same_new np)) (fun b o h => ?_) (fun b o h => ?_) (.tup upd_same (.cons (.bl b1) (.cons (.bl b2) (.cons (.bl false) .nil))))
    · by_cases z : b = p
      · subst z
        rw [upd_same] at h ⊢
        exact h
      · rw [upd_ne z] at h ⊢
        exact g b o h
    · rw [upd_ne (ne_of_none h fp)]
      exact fg b o h
end
end
end Px
namespace Px
open PySem L2
noncomputable section
section
variable {K : PySem.W.Frag} {mg : Str → Option Value} {E : XK} {F F' M G G2 H H2 : Hp} {L : Env} {σ : St} {α : Type}
theorem LR.less (s : Same F F') (h : LR K F' M G H σ L) : LR K F M G H σ L := ⟨s.trans h.f, h.m, h.g, fun a o e => h.fm a o (s _ _ e), fun a o e => h.fg a o (s _ _ e), h.mg, h.slot, h.len, h.inj⟩
theorem OkR.more {P : α → Hp → Hp → Prop} (s : Same F F') : ∀ {r : R α}, OkR K mg E F M G L H σ P r → OkR K mg E F' M G L H σ P r
  | .ok a, h => fun G2 H2 e1 e2 lr => h G2 H2 e1 e2 (lr.less s)
  | .exc c, h => fun a H2 e f g => h a H2 e (s.trans f) g
  | .bad, h => h
/-- what is in no slot is kept away from what comes to stay -/
theorem LR.shield (h : LR K F M G H σ L) {p : Addr} {o : HO} (hp : H p = some o) (gp : G p = none) (mp : M p = none) : LR K (upd F p o) M G H σ L := by
  refine ⟨fun b u e => ?_, h.m, h.g, fun a u e => ?_, fun a u e => ?_, h.mg, h.slot, h.len, h.inj⟩
  · by_cases hb : b = p
    · subst hb
      rw [upd_same] at e
      rw [hp]
      exact e
    · rw [upd_ne hb] at e
      exact h.f _ _ e
  · by_cases hb : a = p
    · subst hb
      exact mp
    · rw [upd_ne hb] at e
      exact h.fm _ _ e
  · by_cases hb : a = p
    · subst hb
      exact gp
    · rw [upd_ne hb] at e
      exact h.fg _ _ e
theorem LR.forget (h : LR K F M G H σ L) (i : Nat) : LR K F M G H σ (setE L i none) := by
  have ne : ∀ {j d}, getE (setE L i none) j = some d → getE L j = some d := fun {j d} e => by
    by_cases hj : j = i
    · subst hj
      rw [getE_set_none] at e
      cases e
    · rw [getE_set_ne _ _ _ _ hj] at e
      exact e
  exact ⟨h.f, h.m, h.g, h.fm, h.fg, h.mg, fun j d e => h.slot j d (ne e), by rw [setE_len]; exact h.len, fun j k a dj dk e1 e2 m1 m2 s1 s2 => h.inj j k a dj dk (ne e1) (ne e2) m1 m2 s1 s2⟩
theorem setE_twice : ∀ (L : Env) (i : Nat) (a b : Option D), setE (setE L i a) i b = setE L i b
  | [], i, a, b => by cases i <;> rfl
  | x :: r, 0, a, b => rfl
  | x :: r, i + 1, a, b => by
    show x :: setE (setE r i a) i b = x :: setE r i b
    rw [setE_twice]
end
def clrOk : D → Prop
  | .own _ => True
  | .val .none => True
  | _ => False
def clr2 (i : Nat) (f1 f2 : Env → R D) : Env → Out := fun L => (f1 L).out fun d1 => (f2 L).out fun d2 => cif (clrOk d1 ∧ clrOk d2 ∧ i < L.length) (.next (setE L i none)) .bad
/-- nothing, or a list that nobody else sees -/
def Cl (F M G H : Hp) (a : Addr) (v : V) : Prop := v = .non ∨ ∃ p xs, v = .ref p ∧ H p = some (.lst xs) ∧ G p = none ∧ F p = none ∧ M p = none ∧ p ≠ a
theorem cl_upd {F M G H : Hp} {a p : Addr} {v : V} (h : Cl F M G H a v) : Cl F M G (upd H p (.lst [])) a v := by
  rcases h with h | ⟨p', xs, e, hp, k⟩
  · exact .inl h
  · by_cases z : p' = p
    · subst z
      exact .inr ⟨p', [], e, upd_same, k⟩
    · exact .inr ⟨p', xs, e, by rw [upd_ne z]; exact hp, k⟩
section
variable {X : Cx} {E : XK} {a b : Expr} {pos pt pl p1 p2 p3 p4 p5 p6 p7 : Pos}
theorem xs_clr2 {k i u : Nat} {x : Str} {f1 f2 : Env → R D} (C : Ctx X E k) (nd : X.N.Nodup) (hN : X.N[i]? = some x) (h1 : XF X E a f1) (h2 : XF X E b f2)
    (hx : Loc X.env.scope x := by first | exact .inl rfl | exact .inr rfl) (hv : Vis X.env.scope x := by first | exact Or.inl rfl | exact Or.inr (Or.inl rfl) | exact Or.inr (Or.inr rfl)) (hd : (x == ("__debug__" : Str)) = false := by decide) (hcd : (x == ("__classdict__" : Str)) = false := by decide)
    (hf : X.fn x = true ∨ X.env.scope.names.lookup x = some .local := by first | exact .inl rfl | exact .inr rfl) (s1 : starEach [a, b] X.env = (false, eval a X.env) :: starEach [b] X.env := by rfl) (s2 : starEach [b] X.env = (false, eval b X.env) :: starEach [] X.env := by rfl)
    (hs : ∀ x, foldedSetIterable (.List [a, b] pl) X.env x = pure x := by intro _; rfl)
    (hsw : swapsWith (.Call (.Attribute (.Name x p3) "clear" p4) [] [] p5) none p6.line X.env = pure false := by rfl)
    (hbase : attributeBase (.Name x p3) "clear" X.env (eval (.Name x p3) X.env) = eval (.Name x p3) X.env := by rfl) (hline : (p4.endLine == p5.line) = true := by rfl) :
    XS X E (.For (.Name x pt) (.List [a, b] pl) [.If (.Compare (.Name x p1) [.IsNot] [.Constant .none u p2] p7) [.Expr (.Call (.Attribute (.Name x p3) "clear" p4) [] [] p5) p6] [] pos'] [] pos) (clr2 i f1 f2) := by
  have pv : PE X (.Name x p1) (tVar i) := pe_var hN hv hd hcd
  have pv3 : PE X (.Name x p3) (tVar i) := pe_var hN hv hd hcd
  refine psW (ps_for C.own C.calm (pi_list (pe_lst (pa_cons h1 (pa_cons h2 pa_nil s2) s1))) (pg_name (i := i) nd hN hx hf) (pss_one (ps_if (pt_cmpR op_notN pv pe_non (nomark _)) (pss_one (ps_expr (pe_bm0 PySem.F.plainAttrs_list PySem.F.slot_list_clear PySem.F.type_list_clear mt_clear pv3 hbase hline) hsw)) pss_nil)) hs) fun D σ H ⟨F, M, G, L, lr, q⟩ => ?_
  refine ⟨F, M, G, L, lr, (OkS.of q).imp fun d1 G1 H1 _ _ _ lr1 q1 v1 hv1 => ?_⟩
  have start : ∃ F' : Hp, Same F F' ∧ LR X.K F' M G1 H1 σ L ∧ (clrOk d1 → ∀ G2 H2 a, Same H1 H2 → LR X.K F' M G2 H2 σ L → H2 a = none → Cl F M G2 H2 a v1) := by
    cases d1 with
    | val d =>
      refine ⟨F, Same.refl _, lr1, fun h G2 H2 a _ _ _ => ?_⟩
      cases d with
      | none =>
        cases hv1
        exact .inl rfl
      | _ => exact False.elim h
    | own ds =>
      obtain ⟨p, xs, ev, gp, fp, mp, hp, _⟩ := hv1
      refine ⟨upd F p (.lst xs), same_new fp, lr1.shield hp gp mp, fun _ G2 H2 a e2 lr2 na => .inr ⟨p, xs, ev, e2 _ _ hp, lr2.fg _ _ upd_same, fp, mp, fun z => ?_⟩⟩
      subst z
      rw [e2 _ _ hp] at na
      cases na
    | dic ds => exact ⟨F, Same.refl _, lr1, fun h => False.elim h⟩
  obtain ⟨F', sF, lrF, cl1⟩ := start
  refine ⟨F', M, G1, L, lrF, (OkR.more sF (OkS.of q1)).imp fun d2 G2 H2 _ e1 e2 lr2 q2 v2 hv2 => ⟨by show 2 ≤ sizeLine; decide, fun z nz => ?_⟩⟩
  have q3 : (clrOk d1 ∧ clrOk d2 ∧ i < L.length) ∧ OkS X.K X.mg E F G2 D (.next (setE L i none)) := by
    by_cases c : clrOk d1 ∧ clrOk d2 ∧ i < L.length
    · rw [cif_pos c] at q2
      exact ⟨c, q2⟩
    · rw [cif_neg c] at q2
      exact False.elim q2
  obtain ⟨⟨c1, c2, il⟩, q3⟩ := q3
  have k1 : Cl F M G2 H2 z v1 := cl1 c1 G2 H2 z e2 lr2 nz
  have k2 : Cl F M G2 H2 z v2 := by
    cases d2 with
    | val d =>
      cases d with
      | none =>
        cases hv2
        exact .inl rfl
      | _ => exact False.elim c2
    | own ds =>
      obtain ⟨p, xs, ev, gp, fp, mp, hp, _⟩ := hv2
      refine .inr ⟨p, xs, ev, hp, gp, ?_, mp, fun y => ?_⟩
      · cases w : F p with
        | none => rfl
        | some o =>
          rw [sF _ _ w] at fp
          cases fp
      · subst y
        rw [hp] at nz
        cases nz
    | dic ds => exact False.elim c2
  have lr3 : LR X.K F M G2 H2 σ L := lr2.less sF
  have kz : ∀ {v}, Cl F M G2 H2 z v → Cl F M G2 (upd H2 z (.lst [v1, v2])) z v := fun {v} h => by
    rcases h with h | ⟨p, xs, e, hp, g, f, m, ne⟩
    · exact .inl h
    · exact .inr ⟨p, xs, e, by rw [upd_ne ne]; exact hp, g, f, m, ne⟩
  have lr4 : LR X.K F M G2 (upd H2 z (.lst [v1, v2])) σ (setE L i none) := (lr3.newM nz).1.forget i
  refine ⟨z, rfl, ⟨_, SqL.of upd_same⟩, for_list (xs := [v1, v2]) (fun _ σ' H' => LR X.K F M G2 H' σ' (setE L i none) ∧ H' z = some (.lst [v1, v2]) ∧ Cl F M G2 H' z v1 ∧ Cl F M G2 H' z v2) ⟨lr4, upd_same, kz k1, kz k2⟩ (fun _ σ' H' _ p => SqL.of p.2.1) (fun n x σ' H' hx p => ?_) (fun σ' H' p => q3 σ' M G2 H' (Same.refl _) p.1)⟩
  obtain ⟨lr5, hz, m1, m2⟩ := p
  have cx : Cl F M G2 H' z x := by
    cases n with
    | zero =>
      cases hx
      exact m1
    | succ n =>
      cases n with
      | zero =>
        cases hx
        exact m2
      | succ n => cases hx
  have len : i < σ'.length := by
    rw [← lr5.len, setE_len]
    exact il
  have lr6 : LR X.K F M G2 H' (σ'.set i (some x)) (setE L i none) := by
    have w := lr5.wipe i (some x)
    rw [setE_twice] at w
    exact w
  have sx : (σ'.set i (some x))[i]? = some (some x) := List.getElem?_set_self len
  refine ⟨x, sx, rfl, _, rfl, ?_⟩
  rcases cx with e | ⟨p, xs, e, hp, gp, fp, mp, ne⟩
  · subst e
    exact ⟨lr6, hz, m1, m2⟩
  · subst e
    refine ⟨_, sx, .inl ⟨rfl, xs, SqL.of hp⟩, p, xs, rfl, rfl, hp, ?_⟩
    exact ⟨lr6.mono (Same.refl _) (same_mut lr6.g gp) (same_mut lr6.f fp) (same_mut lr6.m mp) lr6.fg lr6.mg, by rw [upd_ne ne.symm]; exact hz, cl_upd m1, cl_upd m2⟩
end
end
end Px
namespace Px
open PySem L2
noncomputable section
/-- the value handed in is an exception object of the class at Ca -/
def OfCls (Ca : Addr) (x : Addr × Obj) (vs : List V) : Prop := vs = [.ref x.1] ∧ Zc (.ref Ca) none x.2 ∧ ∃ zs, x.2.data = .fields zs
/-- what a def does with the exception in hand: it answers a new list bs -/
def BoolsAt (Q : VK) (H : Hp) (bs : List V) : Prop := ∀ y H', H y = none → Same H H' → H' y = some (.lst bs) → Q (.ref y) H'
/-- a def's promise within an except suite -/
structure FnZ (P : Program) (w : World) (K : PySem.W.Frag) (mg : Str → Option Value) (base : Heap) (f : Addr) (fd : FuncData) (n : Str) (Ca : Addr) (bs : List V) : Prop where
  go : ∀ (A : Around) (outer : List PySem.Env) (s : Shared) (H : Hp) (args : Args) (u : Value) (x : Addr × Obj) (Q : VK),
    L2H.RoomH 1 A → L2H.PinOk outer H s x → OfCls Ca x [.ref x.1] → Env0 P w K mg base A outer s H → BindsTo s fd args [(n, u)] → RelV (.ref x.1) u → BoolsAt Q H bs →
    codeAny (model P w) A (.call (.ref f) args) (CR CX0 outer P w H s Q E0) s
section
variable {P : Program} {w : World} {K : PySem.W.Frag} {mg : Str → Option Value} {base : Heap}
theorem fnZ_of {y qual n : Str} {st : Stmt} {f : Addr} {fd : FuncData} {N : List Str} {Ca : Addr} {bs : List V} (Fn : Fun K y qual st f fd) (S : FnScope N [n] (defScope st))
    (body : ∀ (cdv : Value) (A : Around) (outer : List PySem.Env) (s : Shared) (H : Hp) (x : Addr × Obj) (Q : VK), OfCls Ca x [.ref x.1] → BoolsAt Q H bs →
      ∃ t, PSs (L2H.cxH CX0 P w K mg base N qual (defScope st) f cdv A outer s H E0 x) (defBody st) t ∧ t { nx := fun _ H' => Q .non H', rt := Q } (L2.start N [.ref x.1]) H) : FnZ P w K mg base f fd n Ca bs := by
  obtain ⟨oc, od, kV, doc, pm, an, cdv, ct, osl, rfl, look, code⟩ := Fn.ex
  refine ⟨fun A outer s H args u x Q room pin cls e0 bind rel want => ?_⟩
  have kin : K.In s.heap := e0.mod.kin.keeps fun b o e =>
    (e0.bs b o e).1
  have nolim : s.heap.NoLimit := e0.mod.nolimit.keeps fun b o e =>
    (e0.bs b o e).1
  have kinds : ∀ z ∈ [n].zip [u], (defScope st).names.lookup z.1 = some .local ∨
      ((defScope st).names.lookup z.1 = some .cell ∧ ((cellsFrom (s.heap.objs.size + 1) (defScope st).names []).lookup z.1).isSome = true) := fun z hz => by
    rcases S.par z.1 (List.of_mem_zip (show (z.1, z.2) ∈ [n].zip [u] from hz)).1 with q | q
    · exact .inl q
    · exact .inr ⟨q, PySem.W.cellsFrom_some _ _ _
        (.inl q)⟩
  refine codeAny_call_function room.depth (kin _ _ look) rfl S.co S.gen rfl
    (PySem.W.codeRec_of kin code) (bind _ _ _ _ ?_)
  refine wpAny_newFunctionEnv_cells S.kind kinds
    fun env he s1 ic => ?_
  subst he
  refine ⟨nolim.keeps ic.toInCall.keep,
    codeAny_func ?_⟩
  obtain ⟨t, walk, reads⟩ := body cdv A outer s H x Q cls want
  have I := L2H.inv_startH (CX := CX0) (K := K) (mg := mg) (E := E0) (vs := [V.ref x.1]) S pin e0 rfl (.cons rel .nil) ic
  refine wpAny_mono (walk.run [] s1 _ H _ I reads)
    (fun fl s' q => ?_) fun e s' q => q
  cases fl with
  | ret r =>
    obtain ⟨v, σ', H', J, rv, q⟩ := q
    exact ⟨v, H', J.os, J.bare, J.base, J.hok, rv, q⟩
  | next =>
    obtain ⟨σ', H', J, q⟩ := q
    exact ⟨V.non, H', J.os, J.bare, J.base, J.hok, rfl, q⟩
  | brk => exact False.elim (by obtain ⟨_, _, _, q⟩ := q; exact q)
  | cont => exact False.elim (by obtain ⟨_, _, _, q⟩ := q; exact q)
end
section
variable {X : Cx} {pos p p2 p3 p4 q : Pos}
/-- isinstance(e, Y), e's object pinned -/
theorem call_isP {x : Addr × Obj} {C : Addr} (hp : x ∈ X.pn) (hz : Zc (.ref C) none x.2) (hf : ∃ vs, x.2.data = .fields vs) (hcl : (PySem.W.clsIn X.K C).isSome = true) (hga : PySem.W.findIn X.K (.ref C) "__getattribute__" = some (some (.builtin "BaseException.__getattribute__")))
    {gt : Option Value} (hgt : PySem.W.findIn X.K (.ref C) "__getattr__" = some gt) (hsub : PySem.W.subIn X.K (.ref C) (.type "BaseException") = some true) (ha : PySem.W.findIn X.K (.ref C) "__class__" = some (some (.builtin "object.__class__")))
    (hn : PySem.W.specialIn X.K (.builtin "object.__class__") "__get__" = some (some (.builtin "getset_descriptor.__get__"))) (htk : PySem.W.takesIn X.K (.builtin "object.__class__") = some true) (hm : PySem.W.mroIn X.K C (.type "object") = some true) :
    CallR X (.builtin "isinstance") (fun xs H Q => ∃ (c : V) (u : Value) (b : Bool), xs = [.ref x.1, c] ∧ ClsV c u ∧ PySem.W.kitOne X.K (.ref C) u = some b ∧ Q (.bl b) H) := by
  intro pins s σ H xs us Q I r h
  obtain ⟨c, u, b, rfl, k, e, q⟩ := h
  obtain ⟨u1, u2, rfl, r1, r2⟩ := L2.vals2 r
  have e2 := k.eq r2
  subst e2
  cases (show u1 = Value.ref x.1 from r1)
  have pin := I.pin x (List.mem_append_left _ hp)
  obtain ⟨vs, hd⟩ := hf
  obtain ⟨h1, h2⟩ := hz
  have hI : PySem.W.InstAt s.heap x.1 x.2 C none := ⟨pin.1, h1, by unfold PySem.W.notCls; rw [hd], by rw [h2]; trivial⟩
  exact PySem.W.kia_one (PySem.W.kitx_exc hcl hga hgt hsub ha hn htk hm) I.kIn hI e (fun z => nomatch z) fun tk => ⟨.bl b, H, I.tok tk, rfl, q⟩
abbrev IsR (X : Cx) (a C : Addr) : Prop := CallR X (.builtin "isinstance") (fun xs H Q => ∃ (c : V) (u : Value) (b : Bool), xs = [.ref a, c] ∧ ClsV c u ∧ PySem.W.kitOne X.K (.ref C) u = some b ∧ Q (.bl b) H)
theorem isR_of {x : Addr × Obj} {c s : Str} {no : List Str} {Ca : Addr} (ei : ExcIs X.K X.mg c s no) (gC : X.mg c = some (.ref Ca)) (hp : x ∈ X.pn) (hz : Zc (.ref Ca) none x.2) (hf : ∃ vs, x.2.data = .fields vs) : IsR X x.1 Ca := by
  obtain ⟨C, S, g1, g2, ex, h1, h2, ⟨gt, h3⟩, h4, h5, h6, h7, h8, _⟩ := ei.ex
  rw [gC] at g1
  cases g1
  exact call_isP hp hz hf h1 h2 h3 h4 h5 h6 h7 h8
section
variable {a C : Addr} {i : Nat} {n y c s : Str} {no : List Str}
theorem pe_isO {A : Addr} {b : Bool} (hc : IsR X a C) (hk : PySem.W.kitOne X.K (.ref C) (.ref A) = some b) (hmi : X.mg "isinstance" = none) (hmy : X.mg y = some (.ref A)) (hN : X.N[i]? = some n := by rfl) (hgi : Gl X "isinstance" := by rfl) (hv : Vis X.env.scope n := by first | exact .inl rfl | exact .inr rfl)
    (hd : (n == ("__debug__" : Str)) = false := by decide) (hcd : (n == ("__classdict__" : Str)) = false := by decide) (hgy : Gl X y := by rfl) (hdy : (y == ("__debug__" : Str)) = false := by decide) : PE X (.Call (.Name "isinstance" p) [.Name n q, .Name y p2] [] pos) (tIs i a b) :=
  peW (pe_callB hc hgi hmi (by decide +kernel) (pa_cons (pe_var (i := i) hN hv hd hcd) (pa_cons (pe_glob (v := .ref A) hgy hmy rfl hdy) pa_nil))) fun σ H Q ⟨e, q⟩ => ⟨.ref a, e, .ref A, _, b, rfl, .own A, hk, q⟩
theorem pe_isU {b : Bool} (hc : IsR X a C) (hk : PySem.W.kitOne X.K (.ref C) (.type "ValueError") = some b) (hmi : X.mg "isinstance" = none) (hmy : X.mg "ValueError" = none) (hN : X.N[i]? = some n := by rfl) (hgi : Gl X "isinstance" := by rfl) (hv : Vis X.env.scope n := by first | exact .inl rfl | exact .inr rfl)
    (hd : (n == ("__debug__" : Str)) = false := by decide) (hcd : (n == ("__classdict__" : Str)) = false := by decide) (hgy : Gl X "ValueError" := by rfl) : PE X (.Call (.Name "isinstance" p) [.Name n q, .Name "ValueError" p2] [] pos) (tIs i a b) :=
  peW (pe_callB hc hgi hmi (by decide +kernel) (pa_cons (pe_var (i := i) hN hv hd hcd) (pa_cons (pe_bltn (v := .ty "ValueError") hgy hmy (by decide +kernel) rfl) pa_nil))) fun σ H Q ⟨e, q⟩ => ⟨.ref a, e, .ty "ValueError", _, b, rfl, .ty "ValueError", hk, q⟩
/-- the class asked for is the one that it is, or one that it is not -/
theorem pe_isAny {Ca : Addr} (ei : ExcIs X.K X.mg c s no) (gC : X.mg c = some (.ref Ca)) (hc : IsR X a Ca) (hmi : X.mg "isinstance" = none) (b : Bool) (hy : (y = c ∧ b = true) ∨ (y ∈ no ∧ b = false)) (hN : X.N[i]? = some n := by rfl) (hgi : Gl X "isinstance" := by rfl) (hv : Vis X.env.scope n := by first | exact .inl rfl | exact .inr rfl)
    (hd : (n == ("__debug__" : Str)) = false := by decide) (hcd : (n == ("__classdict__" : Str)) = false := by decide) (hgy : Gl X y := by rfl) (hdy : (y == ("__debug__" : Str)) = false := by decide) : PE X (.Call (.Name "isinstance" p) [.Name n q, .Name y p2] [] pos) (tIs i a b) := by
  obtain ⟨C, S, g1, g2, ex, h1, h2, _, h4, h5, h6, h7, h8, _, h9⟩ := ei.ex
  rw [gC] at g1
  cases g1
  rcases hy with ⟨rfl, rfl⟩ | ⟨hy, rfl⟩
  · exact pe_isO hc (kit_self _ _) hmi gC hN hgi hv hd hcd hgy hdy
  · obtain ⟨A, mA, kA⟩ := h9 y hy
    exact pe_isO hc kA hmi mA hN hgi hv hd hcd hgy hdy
end
/-- some = [four asked]; return some + [two asked] -/
theorem which_body {a : Addr} {i j : Nat} {y : Str} {e1 e2 e3 e4 e5 e6 : Expr} {b1 b2 b3 b4 b5 b6 : Bool} {pl pl2 pos' po : Pos} (ij : i ≠ j) (hN : X.N.Nodup) (hj : X.N[j]? = some y) (hx : Loc X.env.scope y) (hv : Vis X.env.scope y) (h1 : PE X e1 (tIs i a b1)) (h2 : PE X e2 (tIs i a b2)) (h3 : PE X e3 (tIs i a b3)) (h4 : PE X e4 (tIs i a b4)) (h5 : PE X e5 (tIs i a b5)) (h6 : PE X e6 (tIs i a b6))
    (hs : swapsWith (.List [e1, e2, e3, e4] pl) (some (.Name y pos')) pos.line X.env = pure false) (hf : X.fn y = true ∨ X.env.scope.names.lookup y = some .local) (hd : (y == ("__debug__" : Str)) = false) (hcd : (y == ("__classdict__" : Str)) = false)
    (s1 : starEach [e1, e2, e3, e4] X.env = (false, eval e1 X.env) :: starEach [e2, e3, e4] X.env) (s2 : starEach [e2, e3, e4] X.env = (false, eval e2 X.env) :: starEach [e3, e4] X.env) (s3 : starEach [e3, e4] X.env = (false, eval e3 X.env) :: starEach [e4] X.env) (s4 : starEach [e4] X.env = (false, eval e4 X.env) :: starEach [] X.env)
    (s5 : starEach [e5, e6] X.env = (false, eval e5 X.env) :: starEach [e6] X.env) (s6 : starEach [e6] X.env = (false, eval e6 X.env) :: starEach [] X.env) :
    PSs X [.Assign [.Name y pos'] (.List [e1, e2, e3, e4] pl) pos, .Return (some (.BinOp (.Name y p) .Add (.List [e5, e6] pl2) po)) p2]
      (fun D σ H => σ[i]? = some (some (.ref a)) ∧ j < σ.length ∧ BoolsAt D.rt H [.bl b1, .bl b2, .bl b3, .bl b4, .bl b5, .bl b6]) :=
  pssW (pss_cons (ps_set hN hj hx (pe_lst (pa_cons h1 (pa_cons h2 (pa_cons h3 (pa_cons h4 pa_nil s4) s3) s2) s1)) hs hf) (pss_one (ps_ret (pe_op op_cat (pe_var hj hv hd hcd) (pe_lst (pa_cons h5 (pa_cons h6 pa_nil s6) s5)))))) fun D σ H ⟨e, jl, k⟩ => by
    refine ⟨e, e, e, e, by show 4 ≤ sizeLine; decide, fun c nc => ?_⟩
    have ei : (σ.set j (some (.ref c)))[i]? = some (some (.ref a)) := by
      rw [List.getElem?_set_ne (fun z => ij z.symm)]
      exact e
    refine ⟨.ref c, List.getElem?_set_self jl, ei, ei, by show 2 ≤ sizeLine; decide, fun d nd => ?_⟩
    have cd : c ≠ d := fun z => by
      subst z
      rw [upd_same] at nd
      cases nd
    have sH : Same H (upd (upd H c (.lst [.bl b1, .bl b2, .bl b3, .bl b4])) d (.lst [.bl b5, .bl b6])) := (same_new nc).trans (same_new nd)
    refine ⟨c, d, _, _, rfl, rfl, by rw [upd_ne cd]; exact upd_same, upd_same, by show 4 + 2 ≤ sizeLine; decide, fun z nz => ?_⟩
    exact k z _ (sH.free nz) (sH.trans (same_new nz)) upd_same
end
end
end Px
namespace Px
open PySem L2
noncomputable section
def tupI : PD → Bool
  | .tuple [.int _, .int _] => true
  | _ => false
/-- _law_asked, as far as it tells True -/
def askedG (fa fb : List PD → R D) (b p s : PD) : R D := match fa [b, s] with
  | .ok (.val (.tuple [.str z, .list (c :: cs)])) => cif (flatP c = true ∧ fb [b, p, s, .tuple [.str z, .list (c :: cs)]] = .ok (.val (.bool true))) (.ok (.val (.bool true))) .bad
  | _ => .bad
def askedF (fa fb : List PD → R D) : List PD → R D
  | [.dict [(.int n, .list rows)], .list pile, .tuple [.int i, .int j]] => cif (rows.all tupI = true ∧ pile.all tupI = true) (askedG fa fb (bkD n rows) (.list pile) (.tuple [.int i, .int j])) .bad
  | _ => .bad
theorem askedF_len {fa fb : List PD → R D} (ds : List PD) (h : ds.length ≠ 3) : askedF fa fb ds = .bad := by
  unfold askedF
  split
  · exact absurd rfl h
  · rfl
/-- _law_which keeps its promise for errors of the class c: it tells the flags fl -/
structure WhAt (P : Program) (w : World) (K : PySem.W.Frag) (mg : Str → Option Value) (base : Heap) (c : Str) (fl : List Bool) : Prop where
  ex : ∃ (f : Addr) (fd : FuncData), mg "_law_which" = some (.ref f) ∧ PySem.W.keepIn K (.ref f) = true ∧ Binds K fd ["e"] [] ∧ ∀ Ca : Addr, mg c = some (.ref Ca) → FnZ P w K mg base f fd "e" Ca (fl.map V.bl)
def tWhich (i : Nat) (a : Addr) (fl : List Bool) : TE := fun σ H Q => σ[i]? = some (some (.ref a)) ∧ BoolsAt Q H (fl.map V.bl)
theorem dq_bools {K : PySem.W.Frag} {H : Hp} : ∀ fl : List Bool, DqAll K H (fl.map V.bl) (fl.map PyData.bool)
  | [] => .nil
  | b :: r => .cons (.bl b) (dq_bools r)
section
variable {Y : Cx} {pos p q : Pos}
theorem pe_callZ {x : Addr × Obj} {c : Str} {Ca : Addr} {fl : List Bool} {i : Nat} {n : Str} (W : WhAt Y.prog Y.w Y.K Y.mg Y.base c fl) (gC : Y.mg c = some (.ref Ca)) (hr : L2H.RoomH 1 Y.A) (hp : x ∈ Y.pn) (hz : OfCls Ca x [.ref x.1]) (hg : Gl Y "_law_which") (hN : Y.N[i]? = some n) (hv : Vis Y.env.scope n)
    (hd : (n == ("__debug__" : Str)) = false) (hcd : (n == ("__classdict__" : Str)) = false) (he : starEach [.Name n q] Y.env = (false, eval (.Name n q) Y.env) :: starEach [] Y.env) (hpl : (backTo pos (starEach [] Y.env)).any (·.1) = false) :
    PE Y (.Call (.Name "_law_which" p) [.Name n q] [] pos) (tWhich i x.1 fl) := by
  obtain ⟨f, fd, hm, hk, hb, F⟩ := W.ex
  refine ⟨fun pins s σ H Q I h => ?_⟩
  have ha : PA Y [.Name n q] (fun σ H Q => ∃ v, σ[i]? = some (some v) ∧ Q [v] H) := paW (pa_cons (pe_var (i := i) hN hv hd hcd) pa_nil he) fun σ H Q ⟨v, e, k⟩ => ⟨v, e, k⟩
  refine wpAny_Call_Name_kw (ld_glob I hg hm ?_ (by decide))
  refine PySem.W.callWith_K (h₀ := Y.base) I.ok.mod.kin hk
    (thn (ha.run pos pins s σ H (fun vs H' => vs = [V.ref x.1] ∧ BoolsAt Q H' (fl.map V.bl)) I ⟨_, h.1, rfl, h.2⟩) fun us s1 ⟨vs, H1, I1, r, ev, k⟩ => ⟨I1.kIn, ?_⟩) he hpl
  subst ev
  obtain ⟨u, eu, ru⟩ : ∃ u, us = [u] ∧ RelV (.ref x.1) u := by
    cases r with
    | cons r rr =>
      cases rr
      exact ⟨_, rfl, r⟩
  · subst eu
    have b := hb s1 [u] I1.kIn rfl
    rw [List.append_nil] at b
    have P1 := I1.pin x (List.mem_append_left _ hp)
    have pin : L2H.PinOk Y.stack H1 s1 x := ⟨P1.1, P1.2.1, fun hm =>
      (List.mem_cons.mp (I1.stkSub x.1 hm)).elim P1.2.2.1 P1.2.2.2.1, P1.2.2.2.2⟩
    refine wpAny_call (codeAny_mono ((F Ca gC).go Y.A Y.stack s1 H1 ⟨[u], []⟩ u x Q hr pin hz I1.env0 b ru k) fun r s' hq => ?_)
    cases r with
    | error e => exact False.elim hq
    | ok fl =>
      cases fl with
      | ret u => exact I1.after hq
      | next => exact False.elim hq
      | brk => exact False.elim hq
      | cont => exact False.elim hq
end
section
variable {X : Cx} {E : XK} {pos p q pl pc pr q1 q2 q3 q4 q5 q6 : Pos}
theorem su_which {k i k1 k2 k3 k4 k5 k6 : Nat} {n c : Str} {a : Addr} {oe : Obj} {Ca : Addr} {pn : List (Addr × Obj)} {b1 b2 b3 b4 b5 b6 : Bool} (C : Ctx X E (k + 1)) (hN : X.N[i]? = some n) (hg : Gl X "_law_which") (hv : Vis X.env.scope n) (hd : ((n == ("__debug__" : Str)) = false) ∧ ((n == ("__classdict__" : Str)) = false))
    (W : WhAt X.prog X.w X.K X.mg X.base c [b1, b2, b3, b4, b5, b6]) (gC : X.mg c = some (.ref Ca)) (hz : Zc (.ref Ca) none oe) (hf : ∃ vs, oe.data = .fields vs)
    (he : starEach [.Name n q] X.env = (false, eval (.Name n q) X.env) :: starEach [] X.env := by rfl) (hpl : (backTo p (starEach [] X.env)).any (·.1) = false := by rfl)
    (s1 : starEach [.Constant (.bool b1) k1 q1, .Constant (.bool b2) k2 q2, .Constant (.bool b3) k3 q3, .Constant (.bool b4) k4 q4, .Constant (.bool b5) k5 q5, .Constant (.bool b6) k6 q6] X.env = (false, eval (.Constant (.bool b1) k1 q1) X.env) :: starEach [.Constant (.bool b2) k2 q2, .Constant (.bool b3) k3 q3, .Constant (.bool b4) k4 q4, .Constant (.bool b5) k5 q5, .Constant (.bool b6) k6 q6] X.env := by rfl)
    (e1 : PyData.eqv (.list [.bool b1, .bool b2, .bool b3, .bool b4, .bool b5, .bool b6]) (.list [.bool b1, .bool b2, .bool b3, .bool b4, .bool b5, .bool b6]) = true := by decide +kernel)
    (e2 : SeqAt.shaped (.list [.bool b1, .bool b2, .bool b3, .bool b4, .bool b5, .bool b6]) = true := by decide +kernel) :
    PSs (X.suite a ((a, oe) :: pn)) [.Return (some (.Compare (.Call (.Name "_law_which" pc) [.Name n q] [] p) [.Eq] [.List [.Constant (.bool b1) k1 q1, .Constant (.bool b2) k2 q2, .Constant (.bool b3) k3 q3, .Constant (.bool b4) k4 q4, .Constant (.bool b5) k5 q5, .Constant (.bool b6) k6 q6] pl] pr)) pos] (tSu X.K i a X.N.length (.bool true)) := by
  have hr : L2H.RoomH 1 (X.suite a ((a, oe) :: pn)).A := (L2H.roomH_of (C.room.mono (Nat.le_add_left 1 k)) : L2H.RoomH 1 X.A) |> fun r => ⟨r.dp, r.un⟩
  have call : PE (X.suite a ((a, oe) :: pn)) (.Call (.Name "_law_which" pc) [.Name n q] [] p) (tWhich i a [b1, b2, b3, b4, b5, b6]) :=
    pe_callZ (Y := X.suite a ((a, oe) :: pn)) (x := (a, oe)) W gC hr List.mem_cons_self ⟨rfl, hz, hf⟩ hg hN hv hd.1 hd.2 he hpl
  refine pssW (pss_one (ps_ret (pe_cmpR (op_eqD C.room.units) call (pe_lst (pa_cons pe_bl (pa_cons pe_bl (pa_cons pe_bl (pa_cons pe_bl (pa_cons pe_bl (pa_cons pe_bl pa_nil)))))) ) (nomark _)))) fun D σ H ⟨e, hl, F, G, f, g, fg, kk⟩ => ?_
  refine ⟨e, fun y H1 ny s1 hy => ⟨by show 6 ≤ sizeLine; decide, fun z nz => ?_⟩⟩
  have yz : y ≠ z := fun w => by
    subst w
    rw [hy] at nz
    cases nz
  have l1 : Dq X.K (upd H1 z (.lst [.bl b1, .bl b2, .bl b3, .bl b4, .bl b5, .bl b6])) (.ref y) (.list [.bool b1, .bool b2, .bool b3, .bool b4, .bool b5, .bool b6]) := .lst (by rw [upd_ne yz]; exact hy) (dq_bools [b1, b2, b3, b4, b5, b6])
  have l2 : Dq X.K (upd H1 z (.lst [.bl b1, .bl b2, .bl b3, .bl b4, .bl b5, .bl b6])) (.ref z) (.list [.bool b1, .bool b2, .bool b3, .bool b4, .bool b5, .bool b6]) := .lst upd_same (dq_bools [b1, b2, b3, b4, b5, b6])
  refine ⟨_, _, dq_dp _ _ e2 l1, dq_dp _ _ e2 l2, e2, e2, ?_⟩
  rw [e1]
  have sH := s1.trans (same_new (o := .lst [.bl b1, .bl b2, .bl b3, .bl b4, .bl b5, .bl b6]) nz)
  exact kk _ G _ (Same.refl _) (f.trans sH) (g.trans sH) fg (.bl true)
end
end
end Px
namespace Px
open PySem L2
noncomputable section
-- k01
def g_lit_holds : Env → Out := retS (valF (bvE (op2 eqP (op2 ixP (varB 1) (op2 subP (op1 absP (varB 0)) (constE (.int 1)))) (bvE (op2 gtP (varB 0) (constE (.int 0)))))))
def f_lit_holds : List PD → R D := fnE 2 2 g_lit_holds
theorem f_lit_holds_len (ds : List PD) (h : ds.length ≠ 2) : f_lit_holds ds = .bad := fnE_len ds h
-- k01
def g_holds : Env → Out := retS (valF (orV (callS f_lit_holds (argsE [op2 ixP (varB 0) (constE (.int 0)), varB 1])) (callS f_lit_holds (argsE [op2 ixP (varB 0) (constE (.int 1)), varB 1]))))
def f_holds : List PD → R D := fnE 2 2 g_holds
theorem f_holds_len (ds : List PD) (h : ds.length ≠ 2) : f_holds ds = .bad := fnE_len ds h
-- k01
def g__law_cell_at : Env → Out := seqS (ifS (op2 ltP (varB 1) (op1 lenP (varB 0)))
  (retS (valF (op2 ixP (varB 0) (varB 1))))
  (skipS))
  (retS (valF (constE (.int 0))))
def f__law_cell_at : List PD → R D := fnE 2 2 g__law_cell_at
theorem f__law_cell_at_len (ds : List PD) (h : ds.length ≠ 2) : f__law_cell_at ds = .bad := fnE_len ds h
-- k01
def g__law_lit_by : Env → Out := seqS (ifS (op2 eqP (op2 modP (varB 0) (constE (.int 2))) (constE (.int 1)))
  (retS (valF (op1 negP (op2 addP (op2 divP (varB 0) (constE (.int 2))) (constE (.int 1))))))
  (skipS))
  (retS (valF (op2 addP (op2 divP (varB 0) (constE (.int 2))) (constE (.int 1)))))
def f__law_lit_by : List PD → R D := fnE 1 1 g__law_lit_by
theorem f__law_lit_by_len (ds : List PD) (h : ds.length ≠ 1) : f__law_lit_by ds = .bad := fnE_len ds h
-- k01
def l__law_bits_by_1 : Env → Out := seqS (pushS 3 (bvE (op2 eqP (op2 modP (varB 2) (constE (.int 2))) (constE (.int 1)))))
  (setS 2 (valF (op2 divP (varB 2) (constE (.int 2)))))
def g__law_bits_by : Env → Out := seqS (setS 2 (valF (op2 modP (varB 0) (op2 powP (constE (.int 2)) (constE (.int 60))))))
  (seqS (setS 3 (lstE []))
  (seqS (forR (argsE [varE 1]) (tgN 4)
  (l__law_bits_by_1))
  (retV 3)))
def f__law_bits_by : List PD → R D := fnE 5 2 g__law_bits_by
theorem f__law_bits_by_len (ds : List PD) (h : ds.length ≠ 2) : f__law_bits_by ds = .bad := fnE_len ds h
-- k01
def g_law_k01 : Env → Out := seqS (setS 1 (valF (op2 addP (constE (.int 1)) (op2 modP (callS f__law_cell_at (argsE [varB 0, constE (.int 0)])) (constE (.int 60))))))
  (seqS (setS 2 (valF (fzE (callE f__law_bits_by (argsE [callS f__law_cell_at (argsE [varB 0, constE (.int 1)]), varE 1])))))
  (seqS (setS 3 (valF (callS f__law_lit_by (argsE [op2 modP (callS f__law_cell_at (argsE [varB 0, constE (.int 2)])) (op2 mulP (constE (.int 2)) (varB 1))]))))
  (seqS (setS 4 (valF (callS f__law_lit_by (argsE [op2 modP (callS f__law_cell_at (argsE [varB 0, constE (.int 3)])) (op2 mulP (constE (.int 2)) (varB 1))]))))
  (seqS (ifS (op2 eqP (op2 modP (callS f__law_cell_at (argsE [varB 0, constE (.int 4)])) (constE (.int 3))) (constE (.int 1)))
  (setS 4 (valF (varE 3)))
  (skipS))
  (seqS (setS 5 (valF (orV (bvE (op2 eqP (op2 ixP (varB 2) (op2 subP (op1 absP (varB 3)) (constE (.int 1)))) (bvE (op2 gtP (varB 3) (constE (.int 0)))))) (bvE (op2 eqP (op2 ixP (varB 2) (op2 subP (op1 absP (varB 4)) (constE (.int 1)))) (bvE (op2 gtP (varB 4) (constE (.int 0)))))))))
  (seqS (setS 6 (valF (fzE (op1 listP (varB 2)))))
  (seqS (setS 7 (valF (callS f_holds (argsE [tupE [varE 3, varE 4], varB 6]))))
  (retS (valF (andV (op1 (isiP "bool") (varB 7)) (andV (bvE (op2 eqP (varB 7) (varB 5))) (bvE (op2 eqP (varB 6) (varB 2))))))))))))))
def f_law_k01 : List PD → R D := fnE 8 1 g_law_k01
theorem f_law_k01_len (ds : List PD) (h : ds.length ≠ 1) : f_law_k01 ds = .bad := fnE_len ds h
-- k02
def l_good_1 : Env → Out := ifS (notT (op1 asB (callS f_holds (argsE [varB 2, varB 1]))))
  (retS (valF (constE (.bool false))))
  (skipS)
def g_good : Env → Out := seqS (forL (varE 0) (tgN 2)
  (l_good_1))
  (retS (valF (constE (.bool true))))
def f_good : List PD → R D := fnE 3 2 g_good
theorem f_good_len (ds : List PD) (h : ds.length ≠ 2) : f_good ds = .bad := fnE_len ds h
-- k02
def l__law_pile_by_1 : Env → Out := seqS (setS 6 (valF (callS f__law_cell_at (argsE [varB 0, op2 addP (varB 1) (varB 5)]))))
  (pushS 4 (tupE [callS f__law_lit_by (argsE [op2 modP (varB 6) (op2 mulP (constE (.int 2)) (varB 2))]), callS f__law_lit_by (argsE [op2 modP (op2 divP (varB 6) (op2 mulP (constE (.int 2)) (varB 2))) (op2 mulP (constE (.int 2)) (varB 2))])]))
def g__law_pile_by : Env → Out := seqS (setS 4 (lstE []))
  (seqS (forR (argsE [varE 3]) (tgN 5)
  (l__law_pile_by_1))
  (retV 4))
def f__law_pile_by : List PD → R D := fnE 7 4 g__law_pile_by
theorem f__law_pile_by_len (ds : List PD) (h : ds.length ≠ 4) : f__law_pile_by ds = .bad := fnE_len ds h
-- k02
def l__law_far_pile_1 : Env → Out := seqS (setS 0 (valF (op2 modP (op2 addP (op2 mulP (varB 0) (constE (.int 48271))) (constE (.int 11))) (constE (.int 2147483647)))))
  (pushS 3 (tupE [callS f__law_lit_by (argsE [op2 modP (varB 0) (op2 mulP (constE (.int 2)) (varB 1))]), callS f__law_lit_by (argsE [op2 modP (op2 divP (varB 0) (constE (.int 1009))) (op2 mulP (constE (.int 2)) (varB 1))])]))
def g__law_far_pile : Env → Out := seqS (setS 3 (lstE []))
  (seqS (forR (argsE [varE 2]) (tgN 4)
  (l__law_far_pile_1))
  (retV 3))
def f__law_far_pile : List PD → R D := fnE 5 3 g__law_far_pile
theorem f__law_far_pile_len (ds : List PD) (h : ds.length ≠ 3) : f__law_far_pile ds = .bad := fnE_len ds h
-- k02
def l__law_turned_1 : Env → Out := seqS (setS 4 (valF (op1 absP (op2 ixP (varB 3) (constE (.int 0))))))
  (seqS (ifS (notT (op1 asB (op2 ixP (varB 1) (op2 subP (varB 4) (constE (.int 1))))))
  (setS 4 (valF (op1 negP (varB 4))))
  (skipS))
  (pushS 2 (tupE [varE 4, op2 ixP (varB 3) (constE (.int 1))])))
def g__law_turned : Env → Out := seqS (setS 2 (lstE []))
  (seqS (forL (varE 0) (tgN 3)
  (l__law_turned_1))
  (retV 2))
def f__law_turned : List PD → R D := fnE 5 2 g__law_turned
theorem f__law_turned_len (ds : List PD) (h : ds.length ≠ 2) : f__law_turned ds = .bad := fnE_len ds h
-- k02
def l__law_true_1 : Env → Out := ifS (op2 eqP (op2 ixP (varB 1) (op2 subP (op1 absP (varB 2)) (constE (.int 1)))) (bvE (op2 gtP (varB 2) (constE (.int 0)))))
  (retS (valF (constE (.bool true))))
  (skipS)
def g__law_true : Env → Out := seqS (forT (varE 0) (tgN 2)
  (l__law_true_1))
  (retS (valF (constE (.bool false))))
def f__law_true : List PD → R D := fnE 3 2 g__law_true
theorem f__law_true_len (ds : List PD) (h : ds.length ≠ 2) : f__law_true ds = .bad := fnE_len ds h
-- k02
def l__law_all_true_1 : Env → Out := ifS (notT (op1 asB (callS f__law_true (argsE [varB 2, varB 1]))))
  (retS (valF (constE (.bool false))))
  (skipS)
def g__law_all_true : Env → Out := seqS (forL (varE 0) (tgN 2)
  (l__law_all_true_1))
  (retS (valF (constE (.bool true))))
def f__law_all_true : List PD → R D := fnE 3 2 g__law_all_true
theorem f__law_all_true_len (ds : List PD) (h : ds.length ≠ 2) : f__law_all_true ds = .bad := fnE_len ds h
-- k02
def g_law_k02 : Env → Out := seqS (setS 1 (valF (op2 addP (constE (.int 1)) (op2 modP (callS f__law_cell_at (argsE [varB 0, constE (.int 0)])) (constE (.int 60))))))
  (seqS (setS 2 (valF (fzE (callE f__law_bits_by (argsE [callS f__law_cell_at (argsE [varB 0, constE (.int 1)]), varE 1])))))
  (seqS (setS 3 (valF (callS f__law_cell_at (argsE [varB 0, constE (.int 2)]))))
  (seqS (setS 4 (callE f__law_pile_by (argsE [varE 0, constE (.int 5), varE 1, op2 modP (varB 3) (constE (.int 13))])))
  (seqS (ifS (op2 eqP (op2 modP (op2 divP (varB 3) (constE (.int 13))) (constE (.int 4))) (constE (.int 1)))
  (setS 4 (callE f__law_far_pile (argsE [callS f__law_cell_at (argsE [varB 0, constE (.int 3)]), varE 1, op2 addP (constE (.int 17)) (op2 modP (op2 divP (varB 3) (constE (.int 52))) (constE (.int 384)))])))
  (skipS))
  (seqS (ifS (op2 eqP (op2 modP (callS f__law_cell_at (argsE [varB 0, constE (.int 4)])) (constE (.int 2))) (constE (.int 1)))
  (seqS (frzS 4) (seqS (setS 4 (callE f__law_turned (argsE [varE 4, varE 2])))
  (ifS (andT (op2 gtP (op1 lenP (varB 4)) (constE (.int 0))) (op2 eqP (op2 modP (op2 divP (callS f__law_cell_at (argsE [varB 0, constE (.int 4)])) (constE (.int 2))) (constE (.int 2))) (constE (.int 1))))
  (seqS (setS 5 (valF (op2 modP (op2 divP (callS f__law_cell_at (argsE [varB 0, constE (.int 4)])) (constE (.int 4))) (op1 lenP (varB 4)))))
  (putS 4 (varE 5) (tupE [op1 negP (op2 ixP (op2 ixP (varB 4) (varB 5)) (constE (.int 0))), op1 negP (op2 ixP (op2 ixP (varB 4) (varB 5)) (constE (.int 0)))])))
  (skipS))))
  (skipS))
  (seqS (setS 6 (valF (fzE (lstE [fzE (op1 listP (varB 4)), fzE (op1 listP (varB 2))]))))
  (seqS (setS 7 (valF (callS f_good (argsE [op2 ixP (varB 6) (constE (.int 0)), op2 ixP (varB 6) (constE (.int 1))]))))
  (seqS (setS 8 (valF (callS f_good (argsE [fzE (sliceL (varB 4) (noPart) (partE (op1 negP (constE (.int 1))))), fzE (op1 listP (varB 2))]))))
  (seqS (ifS (orT (notT (op1 asB (op1 (isiP "bool") (varB 7)))) (notT (op1 asB (op1 (isiP "bool") (varB 8)))))
  (retS (valF (constE (.bool false))))
  (skipS))
  (seqS (ifS (orT (op2 neP (op2 ixP (varB 6) (constE (.int 0))) (varB 4)) (op2 neP (op2 ixP (varB 6) (constE (.int 1))) (varB 2)))
  (retS (valF (constE (.bool false))))
  (skipS))
  (retS (valF (andV (bvE (op2 eqP (varB 7) (callS f__law_all_true (argsE [varB 4, varB 2])))) (bvE (op2 eqP (varB 8) (callS f__law_all_true (argsE [fzE (sliceL (varB 4) (noPart) (partE (op1 negP (constE (.int 1))))), varB 2])))))))))))))))))
def f_law_k02 : List PD → R D := fnE 9 1 g_law_k02
theorem f_law_k02_len (ds : List PD) (h : ds.length ≠ 1) : f_law_k02 ds = .bad := fnE_len ds h
-- k03
def l_steps_from_2 : Env → Out := ifS (andT (op2 eqP (varB 4) (op1 negP (varB 1))) (op2 (inP true) (varB 5) (varB 2)))
  (pushS 2 (varE 5))
  (skipS)
def l_steps_from_1 : Env → Out := forL (fzE (lstE [tupE [op2 ixP (varB 3) (constE (.int 0)), op2 ixP (varB 3) (constE (.int 1))], tupE [op2 ixP (varB 3) (constE (.int 1)), op2 ixP (varB 3) (constE (.int 0))]])) (tgT 4 5)
  (l_steps_from_2)
def g_steps_from : Env → Out := seqS (setS 2 (lstE []))
  (seqS (forL (varE 0) (tgN 3)
  (l_steps_from_1))
  (retV 2))
def f_steps_from : List PD → R D := fnE 6 2 g_steps_from
theorem f_steps_from_len (ds : List PD) (h : ds.length ≠ 2) : f_steps_from ds = .bad := fnE_len ds h
-- k03
def g__law_many_by : Env → Out := seqS (ifS (op2 eqP (op2 modP (op2 divP (varB 0) (varB 1)) (constE (.int 64))) (constE (.int 2)))
  (retS (valF (constE (.int 60))))
  (skipS))
  (seqS (ifS (op2 eqP (op2 modP (op2 divP (varB 0) (varB 1)) (constE (.int 8))) (constE (.int 1)))
  (retS (valF (op2 addP (constE (.int 1)) (op2 modP (op2 divP (varB 0) (op2 mulP (constE (.int 8)) (varB 1))) (constE (.int 24))))))
  (skipS))
  (retS (valF (op2 addP (constE (.int 1)) (op2 modP (varB 0) (varB 1))))))
def f__law_many_by : List PD → R D := fnE 2 2 g__law_many_by
theorem f__law_many_by_len (ds : List PD) (h : ds.length ≠ 2) : f__law_many_by ds = .bad := fnE_len ds h
-- k03
def g__law_whole : Env → Out := retS (valF (andV (op1 (isiP "int") (varB 0)) (notV (op1 (isiP "bool") (varB 0)))))
def f__law_whole : List PD → R D := fnE 1 1 g__law_whole
theorem f__law_whole_len (ds : List PD) (h : ds.length ≠ 1) : f__law_whole ds = .bad := fnE_len ds h
-- k03
def l__law_due_by_1 : Env → Out := seqS (ifS (andT (op2 eqP (op2 ixP (varB 3) (constE (.int 0))) (op1 negP (varB 1))) (op2 (inP true) (op2 ixP (varB 3) (constE (.int 1))) (varB 2)))
  (pushS 2 (op2 ixP (varB 3) (constE (.int 1))))
  (skipS))
  (ifS (andT (op2 eqP (op2 ixP (varB 3) (constE (.int 1))) (op1 negP (varB 1))) (op2 (inP true) (op2 ixP (varB 3) (constE (.int 0))) (varB 2)))
  (pushS 2 (op2 ixP (varB 3) (constE (.int 0))))
  (skipS))
def g__law_due_by : Env → Out := seqS (setS 2 (lstE []))
  (seqS (forL (varE 0) (tgN 3)
  (l__law_due_by_1))
  (retV 2))
def f__law_due_by : List PD → R D := fnE 4 2 g__law_due_by
theorem f__law_due_by_len (ds : List PD) (h : ds.length ≠ 2) : f__law_due_by ds = .bad := fnE_len ds h
-- k03
def l__law_alike_1 : Env → Out := ifS (orT (notT (op1 asB (callS f__law_whole (argsE [op2 ixP (varB 0) (varB 2)])))) (op2 neP (op2 ixP (varB 0) (varB 2)) (op2 ixP (varB 1) (varB 2))))
  (retS (valF (constE (.bool false))))
  (skipS)
def g__law_alike : Env → Out := seqS (ifS (orT (notT (op1 asB (op1 (isiP "list") (varB 0)))) (op2 neP (op1 lenP (varB 0)) (op1 lenP (varB 1))))
  (retS (valF (constE (.bool false))))
  (skipS))
  (seqS (forR (argsE [op1 lenP (varB 1)]) (tgN 2)
  (l__law_alike_1))
  (retS (valF (constE (.bool true)))))
def f__law_alike : List PD → R D := fnE 3 2 g__law_alike
theorem f__law_alike_len (ds : List PD) (h : ds.length ≠ 2) : f__law_alike ds = .bad := fnE_len ds h
-- k03
def g_law_k03 : Env → Out := seqS (setS 1 (valF (callS f__law_many_by (argsE [callS f__law_cell_at (argsE [varB 0, constE (.int 0)]), constE (.int 7)]))))
  (seqS (setS 2 (valF (op2 modP (callS f__law_cell_at (argsE [varB 0, constE (.int 1)])) (constE (.int 16)))))
  (seqS (setS 3 (valF (fzE (callE f__law_pile_by (argsE [varE 0, constE (.int 3), varE 1, varE 2])))))
  (seqS (ifS (op2 eqP (op2 modP (op2 divP (callS f__law_cell_at (argsE [varB 0, constE (.int 1)])) (constE (.int 32))) (constE (.int 4))) (constE (.int 1)))
  (seqS (setS 3 (valF (fzE (callE f__law_far_pile (argsE [callS f__law_cell_at (argsE [varB 0, constE (.int 2)]), varE 1, op2 addP (constE (.int 17)) (op2 modP (op2 divP (callS f__law_cell_at (argsE [varB 0, constE (.int 1)])) (constE (.int 128))) (constE (.int 384)))])))))
  (setS 2 (valF (op1 lenP (varB 3)))))
  (skipS))
  (seqS (setS 4 (valF (callS f__law_lit_by (argsE [op2 modP (callS f__law_cell_at (argsE [varB 0, constE (.int 2)])) (op2 mulP (constE (.int 2)) (varB 1))]))))
  (seqS (ifS (andT (op2 gtP (varB 2) (constE (.int 0))) (op2 eqP (op2 modP (op2 divP (callS f__law_cell_at (argsE [varB 0, constE (.int 1)])) (constE (.int 16))) (constE (.int 2))) (constE (.int 1))))
  (setS 4 (valF (op1 negP (op2 ixP (op2 ixP (varB 3) (op2 modP (callS f__law_cell_at (argsE [varB 0, constE (.int 2)])) (varB 2))) (op2 modP (op2 divP (callS f__law_cell_at (argsE [varB 0, constE (.int 2)])) (varB 2)) (constE (.int 2)))))))
  (skipS))
  (seqS (setS 5 (valF (fzE (callE f__law_due_by (argsE [varE 3, varE 4])))))
  (seqS (setS 6 (valF (fzE (op1 listP (varB 3)))))
  (seqS (setS 7 (callE f_steps_from (argsE [varE 6, varE 4])))
  (seqS (ifS (orT (notT (op1 asB (callS f__law_alike (argsE [varB 7, varB 5])))) (op2 neP (varB 6) (varB 3)))
  (retS (valF (constE (.bool false))))
  (skipS))
  (seqS (pushS 7 (constE (.int 0)))
  (seqS (ifS (notT (op1 asB (callS f__law_alike (argsE [fzE (callE f_steps_from (argsE [fzE (op1 listP (varB 3)), varE 4])), varB 5]))))
  (retS (valF (constE (.bool false))))
  (skipS))
  (retS (valF (callS f__law_alike (argsE [fzE (callE f_steps_from (argsE [fzE (sliceL (varB 3) (partE (constE (.int 1))) (noPart)), varE 4])), fzE (callE f__law_due_by (argsE [fzE (sliceL (varB 3) (partE (constE (.int 1))) (noPart)), varE 4]))])))))))))))))))
def f_law_k03 : List PD → R D := fnE 8 1 g_law_k03
theorem f_law_k03_len (ds : List PD) (h : ds.length ≠ 1) : f_law_k03 ds = .bad := fnE_len ds h
-- k04
def l_road_2 : Env → Out := ifS (notInD 4 (varE 7))
  (seqS (putDS 4 (varE 7) (constE (.bool true)))
  (pushS 3 (fzE (op2 catP (varB 6) (fzE (lstE [varE 7]))))))
  (skipS)
def l_road_1 : Env → Out := seqS (setS 6 (valF (op2 ixP (varB 3) (varB 5))))
  (seqS (ifS (op2 eqP (op2 ixP (varB 6) (op1 negP (constE (.int 1)))) (varB 2))
  (retV 6)
  (skipS))
  (seqS (forL (fzE (callE f_steps_from (argsE [varE 0, op2 ixP (varB 6) (op1 negP (constE (.int 1)))]))) (tgN 7)
  (l_road_2))
  (setS 5 (valF (op2 addP (varB 5) (constE (.int 1)))))))
def g_road : Env → Out := seqS (setS 3 (lstE [fzE (lstE [varE 1])]))
  (seqS (setS 4 (dic1 (varE 1) (constE (.bool true))))
  (seqS (setS 5 (valF (constE (.int 0))))
  (seqS (whileS (op2 ltP (varB 5) (op1 lenP (varB 3)))
  (l_road_1))
  (retS (valF (constE .none))))))
def f_road : List PD → R D := fnE 8 3 g_road
theorem f_road_len (ds : List PD) (h : ds.length ≠ 3) : f_road ds = .bad := fnE_len ds h
-- k04
def l__law_step_1 : Env → Out := ifS (orT (op2 eqP (varB 3) (tupE [op1 negP (varB 1), varE 2])) (op2 eqP (varB 3) (tupE [varE 2, op1 negP (varB 1)])))
  (retS (valF (constE (.bool true))))
  (skipS)
def g__law_step : Env → Out := seqS (forL (varE 0) (tgN 3)
  (l__law_step_1))
  (retS (valF (constE (.bool false))))
def f__law_step : List PD → R D := fnE 4 3 g__law_step
theorem f__law_step_len (ds : List PD) (h : ds.length ≠ 3) : f__law_step ds = .bad := fnE_len ds h
-- k04
def l__law_is_road_1 : Env → Out := ifS (orT (notT (op1 asB (callS f__law_whole (argsE [varB 2])))) (op2 eqP (varB 2) (constE (.int 0))))
  (retS (valF (constE (.bool false))))
  (skipS)
def l__law_is_road_2 : Env → Out := ifS (notT (op1 asB (callS f__law_step (argsE [varB 0, op2 ixP (varB 1) (varB 3), op2 ixP (varB 1) (op2 addP (varB 3) (constE (.int 1)))]))))
  (retS (valF (constE (.bool false))))
  (skipS)
def g__law_is_road : Env → Out := seqS (ifS (orT (notT (op1 asB (op1 (isiP "list") (varB 1)))) (op2 eqP (op1 lenP (varB 1)) (constE (.int 0))))
  (retS (valF (constE (.bool false))))
  (skipS))
  (seqS (forL (varE 1) (tgN 2)
  (l__law_is_road_1))
  (seqS (forR (argsE [op2 subP (op1 lenP (varB 1)) (constE (.int 1))]) (tgN 3)
  (l__law_is_road_2))
  (retS (valF (constE (.bool true))))))
def f__law_is_road : List PD → R D := fnE 4 2 g__law_is_road
theorem f__law_is_road_len (ds : List PD) (h : ds.length ≠ 2) : f__law_is_road ds = .bad := fnE_len ds h
-- k04
def l__law_fewest_3 : Env → Out := seqS (ifS (andT (op2 eqP (op2 ixP (varB 8) (constE (.int 0))) (op1 negP (varB 7))) (op2 (inP true) (op2 ixP (varB 8) (constE (.int 1))) (varB 4)))
  (seqS (pushS 4 (op2 ixP (varB 8) (constE (.int 1))))
  (pushS 6 (op2 ixP (varB 8) (constE (.int 1)))))
  (skipS))
  (ifS (andT (op2 eqP (op2 ixP (varB 8) (constE (.int 1))) (op1 negP (varB 7))) (op2 (inP true) (op2 ixP (varB 8) (constE (.int 0))) (varB 4)))
  (seqS (pushS 4 (op2 ixP (varB 8) (constE (.int 0))))
  (pushS 6 (op2 ixP (varB 8) (constE (.int 0)))))
  (skipS))
def l__law_fewest_2 : Env → Out := forL (varE 0) (tgN 8)
  (l__law_fewest_3)
def l__law_fewest_1 : Env → Out := seqS (ifS (op2 (inP false) (varB 2) (varB 3))
  (retV 5)
  (skipS))
  (seqS (setS 6 (lstE []))
  (seqS (forL (varE 3) (tgN 7)
  (l__law_fewest_2))
  (seqS (frzS 6) (seqS (setS 3 (valF (varE 6)))
  (setS 5 (valF (op2 addP (varB 5) (constE (.int 1)))))))))
def g__law_fewest : Env → Out := seqS (setS 3 (valF (fzE (lstE [varE 1]))))
  (seqS (setS 4 (lstE [varE 1]))
  (seqS (setS 5 (valF (constE (.int 0))))
  (seqS (whileS (op2 gtP (op1 lenP (varB 3)) (constE (.int 0)))
  (l__law_fewest_1))
  (retS (valF (op1 negP (constE (.int 1))))))))
def f__law_fewest : List PD → R D := fnE 9 3 g__law_fewest
theorem f__law_fewest_len (ds : List PD) (h : ds.length ≠ 3) : f__law_fewest ds = .bad := fnE_len ds h
-- k04
def g__law_right : Env → Out := seqS (setS 3 (valF (fzE (op1 listP (varB 0)))))
  (seqS (setS 4 (valF (fzE (callE f_road (argsE [varE 3, varE 1, varE 2])))))
  (seqS (setS 5 (valF (callS f__law_fewest (argsE [varB 0, varB 1, varB 2]))))
  (seqS (ifS (op2 neP (varB 3) (varB 0))
  (retS (valF (constE (.bool false))))
  (skipS))
  (seqS (ifS (op2 ltP (varB 5) (constE (.int 0)))
  (retS (valF (bvE (op2 isNP (varB 4) (constE .none)))))
  (skipS))
  (seqS (ifS (orT (notT (op1 asB (callS f__law_is_road (argsE [varB 0, varB 4])))) (op2 neP (op1 lenP (varB 4)) (op2 addP (varB 5) (constE (.int 1)))))
  (retS (valF (constE (.bool false))))
  (skipS))
  (retS (valF (andV (bvE (op2 eqP (op2 ixP (varB 4) (constE (.int 0))) (varB 1))) (bvE (op2 eqP (op2 ixP (varB 4) (op1 negP (constE (.int 1)))) (varB 2)))))))))))
def f__law_right : List PD → R D := fnE 6 3 g__law_right
theorem f__law_right_len (ds : List PD) (h : ds.length ≠ 3) : f__law_right ds = .bad := fnE_len ds h
-- k04
def l_law_k04_1 : Env → Out := putS 3 (varE 4) (tupE [op1 negP (op2 ixP (op2 ixP (varB 3) (op2 subP (varB 4) (constE (.int 1)))) (constE (.int 1))), op2 ixP (op2 ixP (varB 3) (varB 4)) (constE (.int 1))])
def g_law_k04 : Env → Out := seqS (setS 1 (valF (callS f__law_many_by (argsE [callS f__law_cell_at (argsE [varB 0, constE (.int 0)]), constE (.int 7)]))))
  (seqS (setS 2 (valF (op2 modP (callS f__law_cell_at (argsE [varB 0, constE (.int 1)])) (constE (.int 16)))))
  (seqS (setS 3 (callE f__law_pile_by (argsE [varE 0, constE (.int 4), varE 1, varE 2])))
  (seqS (ifS (op2 eqP (op2 modP (op2 divP (callS f__law_cell_at (argsE [varB 0, constE (.int 1)])) (constE (.int 16))) (constE (.int 2))) (constE (.int 1)))
  (forR (argsE [constE (.int 1), varE 2]) (tgN 4)
  (l_law_k04_1))
  (skipS))
  (seqS (setS 5 (valF (callS f__law_lit_by (argsE [op2 modP (callS f__law_cell_at (argsE [varB 0, constE (.int 2)])) (op2 mulP (constE (.int 2)) (varB 1))]))))
  (seqS (setS 6 (valF (callS f__law_lit_by (argsE [op2 modP (callS f__law_cell_at (argsE [varB 0, constE (.int 3)])) (op2 mulP (constE (.int 2)) (varB 1))]))))
  (seqS (ifS (andT (op2 gtP (varB 2) (constE (.int 0))) (op2 eqP (op2 modP (op2 divP (callS f__law_cell_at (argsE [varB 0, constE (.int 1)])) (constE (.int 32))) (constE (.int 2))) (constE (.int 1))))
  (seqS (setS 5 (valF (op1 negP (op2 ixP (op2 ixP (varB 3) (constE (.int 0))) (constE (.int 0))))))
  (setS 6 (valF (op2 ixP (op2 ixP (varB 3) (op2 subP (varB 2) (constE (.int 1)))) (constE (.int 1))))))
  (skipS))
  (retS (valF (andV (callS f__law_right (argsE [varB 3, varB 5, varB 6])) (callS f__law_right (argsE [fzE (sliceL (varB 3) (noPart) (partE (op1 negP (constE (.int 1))))), varB 5, varB 6])))))))))))
def f_law_k04 : List PD → R D := fnE 7 1 g_law_k04
theorem f_law_k04_len (ds : List PD) (h : ds.length ≠ 1) : f_law_k04 ds = .bad := fnE_len ds h
-- k05
def l_clash_1 : Env → Out := seqS (setS 3 (valF (fzE (callE f_road (argsE [varE 1, varE 2, op1 negP (varB 2)])))))
  (seqS (setS 4 (valF (fzE (callE f_road (argsE [varE 1, op1 negP (varB 2), varE 2])))))
  (ifS (andT (op2 notNP (varB 3) (constE .none)) (op2 notNP (varB 4) (constE .none)))
  (retS (op2 catP (varB 3) (fzE (sliceL (varB 4) (partE (constE (.int 1))) (noPart)))))
  (skipS)))
def g_clash : Env → Out := seqS (forR (argsE [constE (.int 1), op2 addP (varB 0) (constE (.int 1))]) (tgN 2)
  (l_clash_1))
  (retS (valF (constE .none)))
def f_clash : List PD → R D := fnE 5 2 g_clash
theorem f_clash_len (ds : List PD) (h : ds.length ≠ 2) : f_clash ds = .bad := fnE_len ds h
-- k05
def l_spread_1 : Env → Out := ifS (op2 (inP true) (varB 3) (varB 2))
  (pushS 2 (varE 3))
  (skipS)
def l_spread_3 : Env → Out := ifS (op2 (inP true) (varB 5) (varB 2))
  (pushS 2 (varE 5))
  (skipS)
def l_spread_2 : Env → Out := seqS (forL (fzE (callE f_steps_from (argsE [varE 0, op2 ixP (varB 2) (varB 4)]))) (tgN 5)
  (l_spread_3))
  (setS 4 (valF (op2 addP (varB 4) (constE (.int 1)))))
def g_spread : Env → Out := seqS (setS 2 (lstE []))
  (seqS (forL (varE 1) (tgN 3)
  (l_spread_1))
  (seqS (setS 4 (valF (constE (.int 0))))
  (seqS (whileS (op2 ltP (varB 4) (op1 lenP (varB 2)))
  (l_spread_2))
  (retV 2))))
def f_spread : List PD → R D := fnE 6 2 g_spread
theorem f_spread_len (ds : List PD) (h : ds.length ≠ 2) : f_spread ds = .bad := fnE_len ds h
-- k05
def l_peaceful_1 : Env → Out := ifS (op2 (inP false) (op1 negP (varB 1)) (varB 0))
  (retS (valF (constE (.bool false))))
  (skipS)
def g_peaceful : Env → Out := seqS (forL (varE 0) (tgN 1)
  (l_peaceful_1))
  (retS (valF (constE (.bool true))))
def f_peaceful : List PD → R D := fnE 2 1 g_peaceful
theorem f_peaceful_len (ds : List PD) (h : ds.length ≠ 1) : f_peaceful ds = .bad := fnE_len ds h
-- k05
def l_least_with_1 : Env → Out := ifS (andT (op2 (inP true) (varB 4) (varB 3)) (op2 (inP true) (op1 negP (varB 4)) (varB 3)))
  (seqS (setS 5 (valF (fzE (callE f_spread (argsE [varE 1, fzE (op2 catP (varB 3) (fzE (lstE [op1 negP (varB 4)])))])))))
  (seqS (ifS (notT (op1 asB (callS f_peaceful (argsE [varB 5]))))
  (seqS (setS 5 (valF (fzE (callE f_spread (argsE [varE 1, fzE (op2 catP (varB 3) (fzE (lstE [varE 4])))])))))
  (ifS (notT (op1 asB (callS f_peaceful (argsE [varB 5]))))
  (retS (valF (constE .none)))
  (skipS)))
  (skipS))
  (setS 3 (valF (varE 5)))))
  (skipS)
def g_least_with : Env → Out := seqS (setS 3 (valF (fzE (callE f_spread (argsE [varE 1, varE 2])))))
  (seqS (ifS (notT (op1 asB (callS f_peaceful (argsE [varB 3]))))
  (retS (valF (constE .none)))
  (skipS))
  (seqS (forR (argsE [constE (.int 1), op2 addP (varB 0) (constE (.int 1))]) (tgN 4)
  (l_least_with_1))
  (retS (lcRg 4 (argsE [constE (.int 1), op2 addP (varB 0) (constE (.int 1))]) (yesT) (bvE (op2 (inP false) (varB 4) (varB 3)))))))
def f_least_with : List PD → R D := fnE 6 3 g_least_with
theorem f_least_with_len (ds : List PD) (h : ds.length ≠ 3) : f_least_with ds = .bad := fnE_len ds h
-- k05
def g_least : Env → Out := retS (callE f_least_with (argsE [varE 0, varE 1, fzE (lstE [])]))
def f_least : List PD → R D := fnE 2 2 g_least
theorem f_least_len (ds : List PD) (h : ds.length ≠ 2) : f_least ds = .bad := fnE_len ds h
-- k05
def l__law_is_setting_1 : Env → Out := ifS (notT (op1 asB (op1 (isiP "bool") (varB 2))))
  (retS (valF (constE (.bool false))))
  (skipS)
def g__law_is_setting : Env → Out := seqS (ifS (orT (notT (op1 asB (op1 (isiP "list") (varB 0)))) (op2 neP (op1 lenP (varB 0)) (varB 1)))
  (retS (valF (constE (.bool false))))
  (skipS))
  (seqS (forL (varE 0) (tgN 2)
  (l__law_is_setting_1))
  (retS (valF (constE (.bool true)))))
def f__law_is_setting : List PD → R D := fnE 3 2 g__law_is_setting
theorem f__law_is_setting_len (ds : List PD) (h : ds.length ≠ 2) : f__law_is_setting ds = .bad := fnE_len ds h
-- k05
def l__law_is_ring_1 : Env → Out := ifS (op2 (inP false) (op1 negP (varB 2)) (varB 1))
  (retS (valF (constE (.bool true))))
  (skipS)
def g__law_is_ring : Env → Out := seqS (ifS (orT (notT (op1 asB (callS f__law_is_road (argsE [varB 0, varB 1])))) (op2 neP (op2 ixP (varB 1) (constE (.int 0))) (op2 ixP (varB 1) (op1 negP (constE (.int 1))))))
  (retS (valF (constE (.bool false))))
  (skipS))
  (seqS (forL (varE 1) (tgN 2)
  (l__law_is_ring_1))
  (retS (valF (constE (.bool false)))))
def f__law_is_ring : List PD → R D := fnE 3 2 g__law_is_ring
theorem f__law_is_ring_len (ds : List PD) (h : ds.length ≠ 2) : f__law_is_ring ds = .bad := fnE_len ds h
-- k05
def g__law_knot : Env → Out := seqS (setS 2 (valF (op2 addP (op2 modP (varB 0) (varB 1)) (constE (.int 1)))))
  (seqS (setS 3 (valF (op2 addP (op2 modP (op2 divP (varB 0) (varB 1)) (varB 1)) (constE (.int 1)))))
  (seqS (setS 4 (valF (fzE (lstE [tupE [varE 2, varE 3], tupE [varE 2, op1 negP (varB 3)], tupE [op1 negP (varB 2), varE 3], tupE [op1 negP (varB 2), op1 negP (varB 3)]]))))
  (retS (sliceL (varB 4) (noPart) (partE (op2 modP (op2 divP (varB 0) (op2 mulP (varB 1) (varB 1))) (constE (.int 5))))))))
def f__law_knot : List PD → R D := fnE 5 2 g__law_knot
theorem f__law_knot_len (ds : List PD) (h : ds.length ≠ 2) : f__law_knot ds = .bad := fnE_len ds h
-- k05
def g_law_k05 : Env → Out := seqS (setS 1 (valF (callS f__law_many_by (argsE [callS f__law_cell_at (argsE [varB 0, constE (.int 0)]), constE (.int 7)]))))
  (seqS (setS 2 (valF (callS f__law_cell_at (argsE [varB 0, constE (.int 1)]))))
  (seqS (setS 3 (valF (fzE (callE f__law_pile_by (argsE [varE 0, constE (.int 5), varE 1, op2 modP (varB 2) (constE (.int 13))])))))
  (seqS (ifS (andT (op2 ltP (varB 1) (constE (.int 8))) (op2 eqP (op2 modP (op2 divP (varB 2) (constE (.int 39))) (constE (.int 6))) (constE (.int 1))))
  (seqS (setS 3 (valF (fzE (callE f__law_far_pile (argsE [callS f__law_cell_at (argsE [varB 0, constE (.int 3)]), varE 1, op2 addP (constE (.int 17)) (op2 modP (op2 divP (varB 2) (constE (.int 234))) (constE (.int 24)))])))))
  (setS 3 (valF (fzE (callE f__law_turned (argsE [varE 3, fzE (callE f__law_bits_by (argsE [callS f__law_cell_at (argsE [varB 0, constE (.int 4)]), varE 1]))]))))))
  (skipS))
  (seqS (ifS (op2 eqP (op2 modP (op2 divP (varB 2) (constE (.int 13))) (constE (.int 3))) (constE (.int 1)))
  (seqS (setS 4 (valF (op2 modP (callS f__law_cell_at (argsE [varB 0, constE (.int 2)])) (op2 addP (op1 lenP (varB 3)) (constE (.int 1))))))
  (setS 3 (valF (fzE (op2 catP (fzE (op2 catP (fzE (sliceL (varB 3) (noPart) (partE (varB 4)))) (fzE (callE f__law_knot (argsE [op2 divP (callS f__law_cell_at (argsE [varB 0, constE (.int 2)])) (constE (.int 41)), varE 1]))))) (fzE (sliceL (varB 3) (partE (varB 4)) (noPart))))))))
  (skipS))
  (seqS (setS 5 (valF (fzE (lstE [fzE (op1 listP (varB 3)), fzE (op1 listP (varB 3))]))))
  (seqS (setS 6 (valF (fzE (callE f_least (argsE [varE 1, op2 ixP (varB 5) (constE (.int 0))])))))
  (seqS (setS 7 (valF (fzE (callE f_clash (argsE [varE 1, op2 ixP (varB 5) (constE (.int 1))])))))
  (seqS (ifS (orT (op2 neP (op2 ixP (varB 5) (constE (.int 0))) (varB 3)) (op2 neP (op2 ixP (varB 5) (constE (.int 1))) (varB 3)))
  (retS (valF (constE (.bool false))))
  (skipS))
  (seqS (ifS (op2 isNP (varB 6) (constE .none))
  (retS (valF (callS f__law_is_ring (argsE [varB 3, varB 7]))))
  (skipS))
  (retS (valF (andV (bvE (op2 isNP (varB 7) (constE .none))) (andV (callS f__law_is_setting (argsE [varB 6, varB 1])) (callS f__law_all_true (argsE [varB 3, varB 6])))))))))))))))
def f_law_k05 : List PD → R D := fnE 8 1 g_law_k05
theorem f_law_k05_len (ds : List PD) (h : ds.length ≠ 1) : f_law_k05 ds = .bad := fnE_len ds h
-- k06
def l__law_settings_2 : Env → Out := seqS (pushS 3 (fzE (op2 catP (varB 4) (fzE (lstE [constE (.bool false)])))))
  (pushS 3 (fzE (op2 catP (varB 4) (fzE (lstE [constE (.bool true)])))))
def l__law_settings_1 : Env → Out := seqS (setS 3 (lstE []))
  (seqS (forL (varE 1) (tgN 4)
  (l__law_settings_2))
  (seqS (frzS 3) (setS 1 (valF (varE 3)))))
def g__law_settings : Env → Out := seqS (setS 1 (valF (fzE (lstE [fzE (lstE [])]))))
  (seqS (forR (argsE [varE 0]) (tgN 2)
  (l__law_settings_1))
  (retV 1))
def f__law_settings : List PD → R D := fnE 5 1 g__law_settings
theorem f__law_settings_len (ds : List PD) (h : ds.length ≠ 1) : f__law_settings ds = .bad := fnE_len ds h
-- k06
def l__law_first_1 : Env → Out := ifS (op1 asB (callS f__law_all_true (argsE [varB 1, varB 2])))
  (retV 2)
  (skipS)
def g__law_first : Env → Out := seqS (forL (fzE (callE f__law_settings (argsE [varE 0]))) (tgN 2)
  (l__law_first_1))
  (retS (valF (constE .none)))
def f__law_first : List PD → R D := fnE 3 2 g__law_first
theorem f__law_first_len (ds : List PD) (h : ds.length ≠ 2) : f__law_first ds = .bad := fnE_len ds h
-- k06
def g__law_alike_k06 : Env → Out := seqS (ifS (op2 isNP (varB 1) (constE .none))
  (retS (valF (bvE (op2 isNP (varB 0) (constE .none)))))
  (skipS))
  (retS (valF (andV (callS f__law_is_setting (argsE [varB 0, varB 2])) (bvE (op2 eqP (varB 0) (varB 1))))))
def f__law_alike_k06 : List PD → R D := fnE 3 3 g__law_alike_k06
theorem f__law_alike_k06_len (ds : List PD) (h : ds.length ≠ 3) : f__law_alike_k06 ds = .bad := fnE_len ds h
-- k06
def l_law_k06_1 : Env → Out := pushS 3 (callS f__law_lit_by (argsE [op2 modP (callS f__law_cell_at (argsE [varB 0, op2 addP (constE (.int 2)) (varB 4)])) (op2 mulP (constE (.int 2)) (varB 1))]))
def g_law_k06 : Env → Out := seqS (setS 1 (valF (op2 addP (constE (.int 1)) (op2 modP (callS f__law_cell_at (argsE [varB 0, constE (.int 0)])) (constE (.int 6))))))
  (seqS (setS 2 (valF (fzE (callE f__law_pile_by (argsE [varE 0, constE (.int 4), varE 1, op2 modP (callS f__law_cell_at (argsE [varB 0, constE (.int 1)])) (constE (.int 12))])))))
  (seqS (setS 3 (lstE []))
  (seqS (forR (argsE [op2 modP (op2 divP (callS f__law_cell_at (argsE [varB 0, constE (.int 0)])) (constE (.int 6))) (constE (.int 3))]) (tgN 4)
  (l_law_k06_1))
  (seqS (setS 5 (valF (fzE (lstE [fzE (op1 listP (varB 2)), fzE (op1 listP (varB 3))]))))
  (seqS (frzS 3) (seqS (setS 6 (valF (fzE (callE f__law_first (argsE [varE 1, fzE (op2 catP (varB 2) (fzE (lcL 7 (varE 3) (yesT) (tupE [varE 7, varE 7]))))])))))
  (seqS (setS 8 (callE f_least_with (argsE [varE 1, op2 ixP (varB 5) (constE (.int 0)), op2 ixP (varB 5) (constE (.int 1))])))
  (seqS (frzS 3) (seqS (ifS (orT (notT (op1 asB (callS f__law_alike_k06 (argsE [varB 8, varB 6, varB 1])))) (op2 neP (varB 5) (fzE (lstE [varE 2, varE 3]))))
  (retS (valF (constE (.bool false))))
  (skipS))
  (seqS (ifS (op2 notNP (varB 8) (constE .none))
  (pushS 8 (constE (.bool true)))
  (skipS))
  (seqS (ifS (notT (op1 asB (callS f__law_alike_k06 (argsE [fzE (callE f_least_with (argsE [varE 1, fzE (op1 listP (varB 2)), fzE (op1 listP (varB 3))])), varB 6, varB 1]))))
  (retS (valF (constE (.bool false))))
  (skipS))
  (retS (valF (callS f__law_alike_k06 (argsE [fzE (callE f_least (argsE [varE 1, fzE (op1 listP (varB 2))])), fzE (callE f__law_first (argsE [varE 1, varE 2])), varB 1])))))))))))))))
def f_law_k06 : List PD → R D := fnE 9 1 g_law_k06
theorem f_law_k06_len (ds : List PD) (h : ds.length ≠ 1) : f_law_k06 ds = .bad := fnE_len ds h
-- k07
def l_next_good_1 : Env → Out := ifS (notT (op1 asB (op2 ixP (varB 2) (op2 subP (varB 3) (constE (.int 1))))))
  (seqS (setS 4 (lcRg 5 (argsE [constE (.int 1), varE 3]) (yesT) (iteE (op1 asB (op2 ixP (varB 2) (op2 subP (varB 5) (constE (.int 1))))) (varE 5) (op1 negP (varB 5)))))
  (seqS (frzS 4) (seqS (setS 6 (valF (fzE (callE f_least_with (argsE [varE 0, varE 1, fzE (op2 catP (varB 4) (fzE (lstE [varE 3])))])))))
  (ifS (op2 notNP (varB 6) (constE .none))
  (retV 6)
  (skipS)))))
  (skipS)
def g_next_good : Env → Out := seqS (forR (argsE [varE 0, constE (.int 0), op1 negP (constE (.int 1))]) (tgN 3)
  (l_next_good_1))
  (retS (valF (constE .none)))
def f_next_good : List PD → R D := fnE 7 3 g_next_good
theorem f_next_good_len (ds : List PD) (h : ds.length ≠ 3) : f_next_good ds = .bad := fnE_len ds h
-- k07
def l__law_behind_1 : Env → Out := seqS (ifS (andT (op1 asB (varE 3)) (op2 (inP false) (varB 4) (varB 0)))
  (retV 4)
  (skipS))
  (ifS (op2 eqP (varB 4) (varB 1))
  (setS 3 (valF (constE (.bool true))))
  (skipS))
def g__law_behind : Env → Out := seqS (setS 3 (valF (constE (.bool false))))
  (seqS (forL (fzE (callE f__law_settings (argsE [varE 2]))) (tgN 4)
  (l__law_behind_1))
  (retS (valF (constE .none))))
def f__law_behind : List PD → R D := fnE 5 3 g__law_behind
theorem f__law_behind_len (ds : List PD) (h : ds.length ≠ 3) : f__law_behind ds = .bad := fnE_len ds h
-- k07
def l_law_k07_1 : Env → Out := seqS (ifS (notT (op1 asB (callS f__law_alike_k06 (argsE [varB 5, varB 4, varB 1]))))
  (retS (valF (constE (.bool false))))
  (skipS))
  (seqS (setS 6 (valF (fzE (op1 listP (varB 5)))))
  (seqS (setS 5 (valF (fzE (callE f_next_good (argsE [varE 1, fzE (op1 listP (varB 2)), varE 6])))))
  (ifS (op2 neP (varB 6) (varB 4))
  (retS (valF (constE (.bool false))))
  (skipS))))
def g_law_k07 : Env → Out := seqS (setS 1 (valF (op2 addP (constE (.int 1)) (op2 modP (callS f__law_cell_at (argsE [varB 0, constE (.int 0)])) (constE (.int 5))))))
  (seqS (setS 2 (valF (fzE (callE f__law_pile_by (argsE [varE 0, constE (.int 3), varE 1, op2 modP (callS f__law_cell_at (argsE [varB 0, constE (.int 1)])) (constE (.int 9))])))))
  (seqS (setS 3 (lcL 4 (fzE (callE f__law_settings (argsE [varE 1]))) (op1 asB (callS f__law_all_true (argsE [varB 2, varB 4]))) (varE 4)))
  (seqS (frzS 3) (seqS (setS 5 (valF (fzE (callE f_least (argsE [varE 1, fzE (op1 listP (varB 2))])))))
  (seqS (forL (varE 3) (tgN 4)
  (l_law_k07_1))
  (seqS (ifS (op2 notNP (varB 5) (constE .none))
  (retS (valF (constE (.bool false))))
  (skipS))
  (seqS (setS 7 (valF (fzE (callE f__law_bits_by (argsE [callS f__law_cell_at (argsE [varB 0, constE (.int 2)]), varE 1])))))
  (seqS (setS 6 (valF (fzE (lstE [fzE (op1 listP (varB 2)), fzE (op1 listP (varB 7))]))))
  (seqS (setS 5 (valF (fzE (callE f_next_good (argsE [varE 1, op2 ixP (varB 6) (constE (.int 0)), op2 ixP (varB 6) (constE (.int 1))])))))
  (retS (valF (andV (callS f__law_alike_k06 (argsE [varB 5, fzE (callE f__law_behind (argsE [varE 3, varE 7, varE 1])), varB 1])) (bvE (op2 eqP (varB 6) (fzE (lstE [varE 2, varE 7]))))))))))))))))
def f_law_k07 : List PD → R D := fnE 8 1 g_law_k07
theorem f_law_k07_len (ds : List PD) (h : ds.length ≠ 1) : f_law_k07 ds = .bad := fnE_len ds h
-- k08
def l_why_1 : Env → Out := seqS (setS 8 (valF (fzE (callE f_road (argsE [varE 1, varE 6, varE 7])))))
  (ifS (op2 notNP (varB 8) (constE .none))
  (retS (valF (tupE [constE (.str ("road" : Str)), varE 8])))
  (skipS))
def g_why : Env → Out := seqS (setS 3 (valF (fzE (callE f_clash (argsE [varE 0, varE 1])))))
  (seqS (ifS (op2 notNP (varB 3) (constE .none))
  (retS (valF (tupE [constE (.str ("ring" : Str)), varE 3])))
  (skipS))
  (seqS (setS 4 (valF (op2 ixP (varB 2) (constE (.int 0)))))
  (seqS (setS 5 (valF (op2 ixP (varB 2) (constE (.int 1)))))
  (seqS (forL (fzE (lstE [tupE [op1 negP (varB 4), varE 5], tupE [op1 negP (varB 4), varE 4], tupE [op1 negP (varB 5), varE 5]])) (tgT 6 7)
  (l_why_1))
  (retS (valF (constE .none)))))))
def f_why : List PD → R D := fnE 9 3 g_why
theorem f_why_len (ds : List PD) (h : ds.length ≠ 3) : f_why ds = .bad := fnE_len ds h
-- k08
def g_against : Env → Out := retS (callE f_least_with (argsE [varE 0, varE 1, fzE (lstE [op1 negP (op2 ixP (varB 2) (constE (.int 0))), op1 negP (op2 ixP (varB 2) (constE (.int 1)))])]))
def f_against : List PD → R D := fnE 3 3 g_against
theorem f_against_len (ds : List PD) (h : ds.length ≠ 3) : f_against ds = .bad := fnE_len ds h
-- k08
def g__law_shows : Env → Out := seqS (ifS (orT (notT (op1 asB (op1 (isiP "tuple") (varB 2)))) (op2 neP (op1 lenP (varB 2)) (constE (.int 2))))
  (retS (valF (constE (.bool false))))
  (skipS))
  (seqS (ifS (orT (notT (op1 asB (op1 (isiP "str") (op2 ixP (varB 2) (constE (.int 0)))))) (op2 neP (op2 ixP (varB 2) (constE (.int 0))) (op2 ixP (fzE (lstE [constE (.str ("ring" : Str)), constE (.str ("road" : Str))])) (op1 intP (varB 3)))))
  (retS (valF (constE (.bool false))))
  (skipS))
  (seqS (ifS (notT (op1 asB (varE 3)))
  (retS (valF (callS f__law_is_ring (argsE [varB 0, op2 ixP (varB 2) (constE (.int 1))]))))
  (skipS))
  (seqS (ifS (notT (op1 asB (callS f__law_is_road (argsE [varB 0, op2 ixP (varB 2) (constE (.int 1))]))))
  (retS (valF (constE (.bool false))))
  (skipS))
  (retS (valF (andV (bvE (op2 (inP false) (op1 negP (op2 ixP (op2 ixP (varB 2) (constE (.int 1))) (constE (.int 0)))) (varB 1))) (bvE (op2 (inP false) (op2 ixP (op2 ixP (varB 2) (constE (.int 1))) (op1 negP (constE (.int 1)))) (varB 1)))))))))
def f__law_shows : List PD → R D := fnE 4 4 g__law_shows
theorem f__law_shows_len (ds : List PD) (h : ds.length ≠ 4) : f__law_shows ds = .bad := fnE_len ds h
-- k08
def l_law_k08_1 : Env → Out := putS 3 (varE 4) (tupE [op1 negP (op2 ixP (op2 ixP (varB 3) (op2 subP (varB 4) (constE (.int 1)))) (constE (.int 1))), op2 ixP (op2 ixP (varB 3) (varB 4)) (constE (.int 1))])
def g_law_k08 : Env → Out := seqS (setS 1 (valF (callS f__law_many_by (argsE [callS f__law_cell_at (argsE [varB 0, constE (.int 0)]), constE (.int 7)]))))
  (seqS (setS 2 (valF (op2 modP (callS f__law_cell_at (argsE [varB 0, constE (.int 1)])) (constE (.int 15)))))
  (seqS (setS 3 (callE f__law_pile_by (argsE [varE 0, constE (.int 4), varE 1, varE 2])))
  (seqS (ifS (andT (op2 ltP (varB 1) (constE (.int 8))) (op2 eqP (op2 modP (op2 divP (callS f__law_cell_at (argsE [varB 0, constE (.int 1)])) (constE (.int 60))) (constE (.int 6))) (constE (.int 1))))
  (seqS (setS 2 (valF (op2 addP (constE (.int 17)) (op2 modP (op2 divP (callS f__law_cell_at (argsE [varB 0, constE (.int 1)])) (constE (.int 360))) (constE (.int 20))))))
  (setS 3 (callE f__law_far_pile (argsE [callS f__law_cell_at (argsE [varB 0, constE (.int 4)]), varE 1, varE 2]))))
  (skipS))
  (seqS (ifS (op2 eqP (op2 modP (op2 divP (callS f__law_cell_at (argsE [varB 0, constE (.int 1)])) (constE (.int 15))) (constE (.int 2))) (constE (.int 1)))
  (forR (argsE [constE (.int 1), varE 2]) (tgN 4)
  (l_law_k08_1))
  (skipS))
  (seqS (setS 5 (valF (callS f__law_lit_by (argsE [op2 modP (callS f__law_cell_at (argsE [varB 0, constE (.int 2)])) (op2 mulP (constE (.int 2)) (varB 1))]))))
  (seqS (setS 6 (valF (tupE [varE 5, callS f__law_lit_by (argsE [op2 modP (callS f__law_cell_at (argsE [varB 0, constE (.int 3)])) (op2 mulP (constE (.int 2)) (varB 1))])])))
  (seqS (ifS (andT (op2 gtP (varB 2) (constE (.int 0))) (op2 eqP (op2 modP (op2 divP (callS f__law_cell_at (argsE [varB 0, constE (.int 1)])) (constE (.int 30))) (constE (.int 2))) (constE (.int 1))))
  (setS 6 (valF (tupE [op2 ixP (op2 ixP (varB 3) (constE (.int 0))) (constE (.int 0)), op2 ixP (op2 ixP (varB 3) (op2 subP (varB 2) (constE (.int 1)))) (constE (.int 1))])))
  (skipS))
  (seqS (setS 7 (valF (fzE (lstE [fzE (op1 listP (varB 3)), fzE (op1 listP (varB 3))]))))
  (seqS (setS 8 (valF (fzE (callE f_why (argsE [varE 1, op2 ixP (varB 7) (constE (.int 0)), varE 6])))))
  (seqS (setS 9 (valF (fzE (callE f_against (argsE [varE 1, op2 ixP (varB 7) (constE (.int 1)), varE 6])))))
  (seqS (ifS (orT (op2 neP (op2 ixP (varB 7) (constE (.int 0))) (varB 3)) (op2 neP (op2 ixP (varB 7) (constE (.int 1))) (varB 3)))
  (retS (valF (constE (.bool false))))
  (skipS))
  (seqS (ifS (op2 isNP (varB 9) (constE .none))
  (retS (valF (callS f__law_shows (argsE [varB 3, varB 6, varB 8, bvE (op2 notNP (fzE (callE f_least (argsE [varE 1, fzE (op1 listP (varB 3))]))) (constE .none))]))))
  (skipS))
  (seqS (ifS (orT (op2 notNP (varB 8) (constE .none)) (notT (op1 asB (callS f__law_is_setting (argsE [varB 9, varB 1])))))
  (retS (valF (constE (.bool false))))
  (skipS))
  (retS (valF (andV (callS f__law_all_true (argsE [varB 3, varB 9])) (notV (callS f__law_true (argsE [varB 6, varB 9])))))))))))))))))))
def f_law_k08 : List PD → R D := fnE 10 1 g_law_k08
theorem f_law_k08_len (ds : List PD) (h : ds.length ≠ 1) : f_law_k08 ds = .bad := fnE_len ds h
-- k09
def l_settled_2 : Env → Out := ifS (op2 notNP (fzE (callE f_road (argsE [varE 1, op1 negP (varB 4), varE 4]))) (constE .none))
  (pushS 2 (varE 4))
  (skipS)
def l_settled_1 : Env → Out := forL (fzE (lstE [varE 3, op1 negP (varB 3)])) (tgN 4)
  (l_settled_2)
def g_settled : Env → Out := seqS (ifS (callN f_least (argsE [varB 0, varB 1]))
  (raiseS ("NoSetting" : Str))
  (skipS))
  (seqS (setS 2 (lstE []))
  (seqS (forR (argsE [constE (.int 1), op2 addP (varB 0) (constE (.int 1))]) (tgN 3)
  (l_settled_1))
  (retV 2)))
def f_settled : List PD → R D := fnE 5 2 g_settled
theorem f_settled_len (ds : List PD) (h : ds.length ≠ 2) : f_settled ds = .bad := fnE_len ds h
-- k09
def l__law_settled_by_2 : Env → Out := ifS (op2 eqP (op1 lenP (fzE (lcL 5 (varE 1) (notT (op1 asB (callS f__law_true (argsE [tupE [varE 4, varE 4], varB 5])))) (varE 5)))) (constE (.int 0)))
  (pushS 2 (varE 4))
  (skipS)
def l__law_settled_by_1 : Env → Out := forL (fzE (lstE [varE 3, op1 negP (varB 3)])) (tgN 4)
  (l__law_settled_by_2)
def g__law_settled_by : Env → Out := seqS (setS 2 (lstE []))
  (seqS (forR (argsE [constE (.int 1), op2 addP (varB 0) (constE (.int 1))]) (tgN 3)
  (l__law_settled_by_1))
  (retV 2))
def f__law_settled_by : List PD → R D := fnE 6 2 g__law_settled_by
theorem f__law_settled_by_len (ds : List PD) (h : ds.length ≠ 2) : f__law_settled_by ds = .bad := fnE_len ds h
-- k09
def g__law_refused : Env → Out := seqS (tryS (dropS (callE f_settled (argsE [varE 0, fzE (op1 listP (varB 1))]))) ("NoSetting" : Str) (.bool true))
  (retS (valF (constE (.bool false))))
def f__law_refused : List PD → R D := fnE 4 2 g__law_refused
theorem f__law_refused_len (ds : List PD) (h : ds.length ≠ 2) : f__law_refused ds = .bad := fnE_len ds h
-- k09
def l__law_against_1 : Env → Out := ifS (notT (op1 asB (callS f__law_true (argsE [varB 1, varB 2]))))
  (retV 2)
  (skipS)
def g__law_against : Env → Out := seqS (forL (varE 0) (tgN 2)
  (l__law_against_1))
  (retS (valF (constE .none)))
def f__law_against : List PD → R D := fnE 3 2 g__law_against
theorem f__law_against_len (ds : List PD) (h : ds.length ≠ 2) : f__law_against ds = .bad := fnE_len ds h
-- k09
def l_law_k09_1 : Env → Out := ifS (notT (op1 asB (callS f__law_whole (argsE [varB 3]))))
  (retS (valF (constE (.bool false))))
  (skipS)
def g_law_k09 : Env → Out := seqS (setS 1 (valF (op2 addP (constE (.int 1)) (op2 modP (callS f__law_cell_at (argsE [varB 0, constE (.int 0)])) (constE (.int 6))))))
  (seqS (setS 2 (callE f__law_pile_by (argsE [varE 0, constE (.int 4), varE 1, op2 modP (callS f__law_cell_at (argsE [varB 0, constE (.int 1)])) (constE (.int 12))])))
  (seqS (ifS (op2 eqP (op2 modP (op2 divP (callS f__law_cell_at (argsE [varB 0, constE (.int 1)])) (constE (.int 12))) (constE (.int 2))) (constE (.int 1)))
  (seqS (setS 3 (valF (callS f__law_lit_by (argsE [op2 modP (callS f__law_cell_at (argsE [varB 0, constE (.int 2)])) (op2 mulP (constE (.int 2)) (varB 1))]))))
  (pushS 2 (tupE [varE 3, varE 3])))
  (skipS))
  (seqS (setS 4 (valF (callS f__law_cell_at (argsE [varB 0, constE (.int 3)]))))
  (seqS (setS 5 (valF (tupE [callS f__law_lit_by (argsE [op2 modP (varB 4) (op2 mulP (constE (.int 2)) (varB 1))]), callS f__law_lit_by (argsE [op2 modP (op2 divP (varB 4) (op2 mulP (constE (.int 2)) (varB 1))) (op2 mulP (constE (.int 2)) (varB 1))])])))
  (seqS (setS 6 (lcL 7 (fzE (callE f__law_settings (argsE [varE 1]))) (op1 asB (callS f__law_all_true (argsE [varB 2, varB 7]))) (varE 7)))
  (seqS (frzS 6) (seqS (setS 7 (valF (fzE (callE f__law_against (argsE [varE 6, varE 5])))))
  (seqS (setS 8 (valF (fzE (op1 listP (varB 2)))))
  (seqS (setS 9 (valF (fzE (callE f_against (argsE [varE 1, varE 8, varE 5])))))
  (seqS (ifS (andT (op2 isNP (varB 7) (constE .none)) (op2 notNP (varB 9) (constE .none)))
  (retS (valF (constE (.bool false))))
  (skipS))
  (seqS (ifS (andT (op2 notNP (varB 7) (constE .none)) (orT (notT (op1 asB (callS f__law_is_setting (argsE [varB 9, varB 1])))) (op2 neP (varB 9) (varB 7))))
  (retS (valF (constE (.bool false))))
  (skipS))
  (seqS (ifS (op2 eqP (op1 lenP (varB 6)) (constE (.int 0)))
  (seqS (frzS 2) (retS (valF (andV (fzE (callE f__law_refused (argsE [varE 1, varE 2]))) (bvE (op2 eqP (varB 8) (varB 2)))))))
  (skipS))
  (seqS (setS 9 (valF (fzE (callE f_settled (argsE [varE 1, varE 8])))))
  (seqS (ifS (orT (notT (op1 asB (op1 (isiP "list") (varB 9)))) (op2 neP (varB 8) (varB 2)))
  (retS (valF (constE (.bool false))))
  (skipS))
  (seqS (forL (varE 9) (tgN 3)
  (l_law_k09_1))
  (retS (valF (bvE (op2 eqP (varB 9) (fzE (callE f__law_settled_by (argsE [varE 1, varE 6]))))))))))))))))))))))
def f_law_k09 : List PD → R D := fnE 10 1 g_law_k09
theorem f_law_k09_len (ds : List PD) (h : ds.length ≠ 1) : f_law_k09 ds = .bad := fnE_len ds h
-- k10
def l_thin_1 : Env → Out := seqS (setS 4 (op2 catP (fzE (sliceL (varB 2) (noPart) (partE (varB 3)))) (fzE (sliceL (varB 2) (partE (op2 addP (varB 3) (constE (.int 1)))) (noPart)))))
  (ifS (callN f_why (argsE [varB 0, varB 4, op2 ixP (varB 2) (varB 3)]))
  (setS 3 (valF (op2 addP (varB 3) (constE (.int 1)))))
  (mvS 2 4))
def g_thin : Env → Out := seqS (setS 2 (op1 listP (varB 1)))
  (seqS (setS 3 (valF (constE (.int 0))))
  (seqS (whileS (op2 ltP (varB 3) (op1 lenP (varB 2)))
  (l_thin_1))
  (retV 2)))
def f_thin : List PD → R D := fnE 5 2 g_thin
theorem f_thin_len (ds : List PD) (h : ds.length ≠ 2) : f_thin ds = .bad := fnE_len ds h
-- k10
def l__law_needed_1 : Env → Out := ifS (andT (op1 asB (callS f__law_all_true (argsE [varB 1, varB 3]))) (notT (op1 asB (callS f__law_true (argsE [varB 2, varB 3])))))
  (retS (valF (constE (.bool true))))
  (skipS)
def g__law_needed : Env → Out := seqS (forL (fzE (callE f__law_settings (argsE [varE 0]))) (tgN 3)
  (l__law_needed_1))
  (retS (valF (constE (.bool false))))
def f__law_needed : List PD → R D := fnE 4 3 g__law_needed
theorem f__law_needed_len (ds : List PD) (h : ds.length ≠ 3) : f__law_needed ds = .bad := fnE_len ds h
-- k10
def l__law_thinned_1 : Env → Out := ifS (op1 asB (callS f__law_needed (argsE [varB 0, fzE (op2 catP (varB 2) (fzE (sliceL (varB 1) (partE (op2 addP (varB 3) (constE (.int 1)))) (noPart)))), op2 ixP (varB 1) (varB 3)])))
  (pushS 2 (op2 ixP (varB 1) (varB 3)))
  (skipS)
def g__law_thinned : Env → Out := seqS (setS 2 (lstE []))
  (seqS (forR (argsE [op1 lenP (varB 1)]) (tgN 3)
  (l__law_thinned_1))
  (retV 2))
def f__law_thinned : List PD → R D := fnE 4 2 g__law_thinned
theorem f__law_thinned_len (ds : List PD) (h : ds.length ≠ 2) : f__law_thinned ds = .bad := fnE_len ds h
-- k10
def l__law_says_1 : Env → Out := seqS (ifS (orT (notT (op1 asB (op1 (isiP "tuple") (varB 1)))) (op2 neP (op1 lenP (varB 1)) (constE (.int 2))))
  (retS (valF (constE (.bool false))))
  (skipS))
  (ifS (orT (notT (op1 asB (callS f__law_whole (argsE [op2 ixP (varB 1) (constE (.int 0))])))) (notT (op1 asB (callS f__law_whole (argsE [op2 ixP (varB 1) (constE (.int 1))])))))
  (retS (valF (constE (.bool false))))
  (skipS))
def g__law_says : Env → Out := seqS (ifS (notT (op1 asB (op1 (isiP "list") (varB 0))))
  (retS (valF (constE (.bool false))))
  (skipS))
  (seqS (forL (varE 0) (tgN 1)
  (l__law_says_1))
  (retS (valF (constE (.bool true)))))
def f__law_says : List PD → R D := fnE 2 1 g__law_says
theorem f__law_says_len (ds : List PD) (h : ds.length ≠ 1) : f__law_says ds = .bad := fnE_len ds h
-- k10
def g_law_k10 : Env → Out := seqS (setS 1 (valF (op2 addP (constE (.int 1)) (op2 modP (callS f__law_cell_at (argsE [varB 0, constE (.int 0)])) (constE (.int 5))))))
  (seqS (setS 2 (valF (fzE (callE f__law_pile_by (argsE [varE 0, constE (.int 3), varE 1, op2 modP (callS f__law_cell_at (argsE [varB 0, constE (.int 1)])) (constE (.int 8))])))))
  (seqS (ifS (andT (op2 gtP (op1 lenP (varB 2)) (constE (.int 0))) (op2 eqP (op2 modP (op2 divP (callS f__law_cell_at (argsE [varB 0, constE (.int 1)])) (constE (.int 8))) (constE (.int 2))) (constE (.int 1))))
  (seqS (setS 3 (valF (op2 ixP (varB 2) (op2 modP (callS f__law_cell_at (argsE [varB 0, constE (.int 2)])) (op1 lenP (varB 2))))))
  (setS 2 (valF (fzE (op2 catP (fzE (op2 catP (fzE (lstE [tupE [op2 ixP (varB 3) (constE (.int 1)), op2 ixP (varB 3) (constE (.int 0))]])) (varB 2))) (fzE (lstE [varE 3])))))))
  (skipS))
  (seqS (setS 4 (valF (fzE (op1 listP (varB 2)))))
  (seqS (setS 5 (callE f_thin (argsE [varE 1, varE 4])))
  (seqS (ifS (orT (op2 neP (varB 4) (varB 2)) (notT (op1 asB (callS f__law_says (argsE [varB 5])))))
  (retS (valF (constE (.bool false))))
  (skipS))
  (seqS (setS 6 (valF (fzE (callE f__law_thinned (argsE [varE 1, varE 2])))))
  (seqS (ifS (op2 neP (varB 5) (varB 6))
  (retS (valF (constE (.bool false))))
  (skipS))
  (seqS (pushS 5 (tupE [constE (.int 1), constE (.int 1)]))
  (retS (valF (andV (bvE (op2 eqP (varB 4) (varB 2))) (bvE (op2 eqP (fzE (callE f_thin (argsE [varE 1, varE 4]))) (varB 6))))))))))))))
def f_law_k10 : List PD → R D := fnE 7 1 g_law_k10
theorem f_law_k10_len (ds : List PD) (h : ds.length ≠ 1) : f_law_k10 ds = .bad := fnE_len ds h
-- k11
def l__law_wishes_1 : Env → Out := seqS (pushS 2 (callS f__law_lit_by (argsE [op2 modP (varB 3) (op2 mulP (constE (.int 2)) (varB 1))])))
  (setS 3 (valF (op2 divP (varB 3) (op2 mulP (constE (.int 2)) (varB 1)))))
def g__law_wishes : Env → Out := seqS (setS 2 (lstE []))
  (seqS (setS 3 (valF (op2 divP (varB 0) (constE (.int 4)))))
  (seqS (forR (argsE [op2 modP (varB 0) (constE (.int 4))]) (tgN 4)
  (l__law_wishes_1))
  (retV 2)))
def f__law_wishes : List PD → R D := fnE 5 2 g__law_wishes
theorem f__law_wishes_len (ds : List PD) (h : ds.length ≠ 2) : f__law_wishes ds = .bad := fnE_len ds h
-- k11
def l__law_by_most_2 : Env → Out := ifS (op1 asB (op2 ixP (varB 5) (varB 3)))
  (setS 4 (valF (op2 addP (varB 4) (constE (.int 1)))))
  (skipS)
def l__law_by_most_1 : Env → Out := seqS (setS 4 (valF (constE (.int 0))))
  (seqS (forL (varE 0) (tgN 5)
  (l__law_by_most_2))
  (pushS 2 (bvE (op2 gtP (varB 4) (constE (.int 1))))))
def g__law_by_most : Env → Out := seqS (setS 2 (lstE []))
  (seqS (forR (argsE [varE 1]) (tgN 3)
  (l__law_by_most_1))
  (retV 2))
def f__law_by_most : List PD → R D := fnE 6 2 g__law_by_most
theorem f__law_by_most_len (ds : List PD) (h : ds.length ≠ 2) : f__law_by_most ds = .bad := fnE_len ds h
-- k11
def l_law_k11_1 : Env → Out := seqS (setS 5 (valF (fzE (callE f__law_wishes (argsE [callS f__law_cell_at (argsE [varB 0, op2 addP (constE (.int 2)) (varB 4)]), varE 1])))))
  (seqS (setS 6 (valF (fzE (callE f_least_with (argsE [varE 1, fzE (op1 listP (varB 2)), fzE (op1 listP (varB 5))])))))
  (ifS (op2 notNP (varB 6) (constE .none))
  (seqS (ifS (orT (notT (op1 asB (callS f__law_is_setting (argsE [varB 6, varB 1])))) (notT (op1 asB (callS f__law_all_true (argsE [varB 2, varB 6])))))
  (retS (valF (constE (.bool false))))
  (skipS))
  (seqS (ifS (notT (op1 asB (callS f__law_all_true (argsE [fzE (lcL 7 (varE 5) (yesT) (tupE [varE 7, varE 7])), varB 6]))))
  (retS (valF (constE (.bool false))))
  (skipS))
  (pushS 3 (varE 6))))
  (skipS)))
def g_law_k11 : Env → Out := seqS (setS 1 (valF (callS f__law_many_by (argsE [callS f__law_cell_at (argsE [varB 0, constE (.int 0)]), constE (.int 9)]))))
  (seqS (setS 2 (valF (fzE (callE f__law_pile_by (argsE [varE 0, constE (.int 5), varE 1, op2 modP (callS f__law_cell_at (argsE [varB 0, constE (.int 1)])) (constE (.int 15))])))))
  (seqS (setS 3 (lstE []))
  (seqS (forR (argsE [constE (.int 3)]) (tgN 4)
  (l_law_k11_1))
  (seqS (ifS (op2 ltP (op1 lenP (varB 3)) (constE (.int 3)))
  (retS (valF (constE (.bool true))))
  (skipS))
  (seqS (frzS 3) (seqS (setS 8 (valF (fzE (callE f__law_by_most (argsE [varE 3, varE 1])))))
  (retS (valF (andV (callS f__law_all_true (argsE [varB 2, varB 8])) (bvE (op2 isBP (callS f_good (argsE [fzE (op1 listP (varB 2)), fzE (op1 listP (varB 8))])) (constE (.bool true)))))))))))))
def f_law_k11 : List PD → R D := fnE 9 1 g_law_k11
theorem f_law_k11_len (ds : List PD) (h : ds.length ≠ 1) : f_law_k11 ds = .bad := fnE_len ds h
-- k12
def l_m_add_1 : Env → Out := ifS (orT (op2 eqP (varB 2) (constE (.int 0))) (op2 gtP (op1 absP (varB 2)) (op1 manyP (varB 0))))
  (raiseS ("BadSay" : Str))
  (skipS)
def g_m_add : Env → Out := seqS (forT (varE 1) (tgN 2)
  (l_m_add_1))
  (seqS (ifS (op2 geP (op1 lenP (op1 heldP (varB 0))) (constE (.int 400)))
  (raiseS ("FullBook" : Str))
  (skipS))
  (badS))
def f_m_add : List PD → R D := fnE 3 2 g_m_add
theorem f_m_add_len (ds : List PD) (h : ds.length ≠ 2) : f_m_add ds = .bad := fnE_len ds h
-- k12
def g_m_back : Env → Out := seqS (ifS (op2 eqP (op1 lenP (op1 heldP (varB 0))) (constE (.int 0)))
  (raiseS ("EmptyBook" : Str))
  (skipS))
  (badS)
def f_m_back : List PD → R D := fnE 1 1 g_m_back
theorem f_m_back_len (ds : List PD) (h : ds.length ≠ 1) : f_m_back ds = .bad := fnE_len ds h
-- k12
def g_m_says : Env → Out := retS (op1 listP (op1 heldP (varB 0)))
def f_m_says : List PD → R D := fnE 1 1 g_m_says
theorem f_m_says_len (ds : List PD) (h : ds.length ≠ 1) : f_m_says ds = .bad := fnE_len ds h
-- k12
def g_m_setting : Env → Out := retS (callE f_least (argsE [op1 manyP (varB 0), op1 heldP (varB 0)]))
def f_m_setting : List PD → R D := fnE 1 1 g_m_setting
theorem f_m_setting_len (ds : List PD) (h : ds.length ≠ 1) : f_m_setting ds = .bad := fnE_len ds h
-- k12
def g_m_ring : Env → Out := retS (callE f_clash (argsE [op1 manyP (varB 0), op1 heldP (varB 0)]))
def f_m_ring : List PD → R D := fnE 1 1 g_m_ring
theorem f_m_ring_len (ds : List PD) (h : ds.length ≠ 1) : f_m_ring ds = .bad := fnE_len ds h
-- k12
def g_m_ask : Env → Out := seqS (setS 2 (valF (fzE (callE f_why (argsE [op1 manyP (varB 0), op1 heldP (varB 0), varE 1])))))
  (seqS (ifS (op2 notNP (varB 2) (constE .none))
  (retV 2)
  (skipS))
  (retS (valF (tupE [constE (.str ("setting" : Str)), fzE (callE f_against (argsE [op1 manyP (varB 0), op1 heldP (varB 0), varE 1]))]))))
def f_m_ask : List PD → R D := fnE 3 2 g_m_ask
theorem f_m_ask_len (ds : List PD) (h : ds.length ≠ 2) : f_m_ask ds = .bad := fnE_len ds h
-- k12
def l__law_reach_k16_2 : Env → Out := seqS (ifS (andT (op2 eqP (op2 ixP (varB 4) (constE (.int 0))) (op1 negP (op2 ixP (varB 2) (varB 3)))) (op2 (inP true) (op2 ixP (varB 4) (constE (.int 1))) (varB 2)))
  (pushS 2 (op2 ixP (varB 4) (constE (.int 1))))
  (skipS))
  (ifS (andT (op2 eqP (op2 ixP (varB 4) (constE (.int 1))) (op1 negP (op2 ixP (varB 2) (varB 3)))) (op2 (inP true) (op2 ixP (varB 4) (constE (.int 0))) (varB 2)))
  (pushS 2 (op2 ixP (varB 4) (constE (.int 0))))
  (skipS))
def l__law_reach_k16_1 : Env → Out := seqS (forL (varE 0) (tgN 4)
  (l__law_reach_k16_2))
  (setS 3 (valF (op2 addP (varB 3) (constE (.int 1)))))
def g__law_reach_k16 : Env → Out := seqS (setS 2 (op1 listP (varB 1)))
  (seqS (setS 3 (valF (constE (.int 0))))
  (seqS (whileS (op2 ltP (varB 3) (op1 lenP (varB 2)))
  (l__law_reach_k16_1))
  (retV 2)))
def f__law_reach_k16 : List PD → R D := fnE 5 2 g__law_reach_k16
theorem f__law_reach_k16_len (ds : List PD) (h : ds.length ≠ 2) : f__law_reach_k16 ds = .bad := fnE_len ds h
-- k12
def l__law_torn_k16_1 : Env → Out := ifS (op2 (inP false) (op1 negP (varB 1)) (varB 0))
  (retS (valF (constE (.bool true))))
  (skipS)
def g__law_torn_k16 : Env → Out := seqS (forL (varE 0) (tgN 1)
  (l__law_torn_k16_1))
  (retS (valF (constE (.bool false))))
def f__law_torn_k16 : List PD → R D := fnE 2 1 g__law_torn_k16
theorem f__law_torn_k16_len (ds : List PD) (h : ds.length ≠ 1) : f__law_torn_k16 ds = .bad := fnE_len ds h
-- k12
def g__law_lits_k16 : Env → Out := retS (lcRg 2 (argsE [constE (.int 1), op2 addP (varB 1) (constE (.int 1))]) (yesT) (iteE (op1 asB (op2 ixP (varB 0) (op2 subP (varB 2) (constE (.int 1))))) (varE 2) (op1 negP (varB 2))))
def f__law_lits_k16 : List PD → R D := fnE 3 2 g__law_lits_k16
theorem f__law_lits_k16_len (ds : List PD) (h : ds.length ≠ 2) : f__law_lits_k16 ds = .bad := fnE_len ds h
-- k12
def l__law_first_k12_1 : Env → Out := ifS (andT (op1 asB (op2 ixP (varB 2) (op2 subP (varB 3) (constE (.int 1))))) (notT (op1 asB (callS f__law_torn_k16 (argsE [fzE (callE f__law_reach_k16 (argsE [varE 0, fzE (op2 catP (fzE (op2 catP (varB 1) (fzE (callE f__law_lits_k16 (argsE [varE 2, op2 subP (varB 3) (constE (.int 1))]))))) (fzE (lstE [op1 negP (varB 3)])))]))])))))
  (retS (valF (constE (.bool false))))
  (skipS)
def g__law_first_k12 : Env → Out := seqS (forR (argsE [constE (.int 1), op2 addP (op1 lenP (varB 2)) (constE (.int 1))]) (tgN 3)
  (l__law_first_k12_1))
  (retS (valF (constE (.bool true))))
def f__law_first_k12 : List PD → R D := fnE 4 3 g__law_first_k12
theorem f__law_first_k12_len (ds : List PD) (h : ds.length ≠ 3) : f__law_first_k12 ds = .bad := fnE_len ds h
-- k12
def g__law_told : Env → Out := seqS (setS 2 (valF (fzE (callM0 f_m_setting (varE 0)))))
  (seqS (setS 3 (valF (fzE (callM0 f_m_ring (varE 0)))))
  (seqS (ifS (op2 isNP (varB 2) (constE .none))
  (retS (valF (callS f__law_is_ring (argsE [varB 1, varB 3]))))
  (skipS))
  (seqS (ifS (orT (op2 notNP (varB 3) (constE .none)) (orT (notT (op1 asB (callS f__law_is_setting (argsE [varB 2, op1 manyP (varB 0)])))) (notT (op1 asB (callS f__law_all_true (argsE [varB 1, varB 2]))))))
  (retS (valF (constE (.bool false))))
  (skipS))
  (retS (callE f__law_first_k12 (argsE [varE 1, fzE (lstE []), varE 2]))))))
def f__law_told : List PD → R D := fnE 4 2 g__law_told
theorem f__law_told_len (ds : List PD) (h : ds.length ≠ 2) : f__law_told ds = .bad := fnE_len ds h
-- k12
def g__law_answers : Env → Out := seqS (ifS (orT (notT (op1 asB (op1 (isiP "tuple") (varB 3)))) (orT (op2 neP (op1 lenP (varB 3)) (constE (.int 2))) (notT (op1 asB (op1 (isiP "str") (op2 ixP (varB 3) (constE (.int 0))))))))
  (retS (valF (constE (.bool false))))
  (skipS))
  (seqS (ifS (op2 eqP (op2 ixP (varB 3) (constE (.int 0))) (constE (.str ("setting" : Str))))
  (seqS (ifS (orT (notT (op1 asB (callS f__law_is_setting (argsE [op2 ixP (varB 3) (constE (.int 1)), op1 manyP (varB 0)])))) (notT (op1 asB (callS f__law_all_true (argsE [varB 1, op2 ixP (varB 3) (constE (.int 1))])))))
  (retS (valF (constE (.bool false))))
  (skipS))
  (retS (valF (andV (notV (callS f__law_true (argsE [varB 2, op2 ixP (varB 3) (constE (.int 1))]))) (fzE (callE f__law_first_k12 (argsE [varE 1, fzE (lstE [op1 negP (op2 ixP (varB 2) (constE (.int 0))), op1 negP (op2 ixP (varB 2) (constE (.int 1)))]), op2 ixP (varB 3) (constE (.int 1))])))))))
  (skipS))
  (seqS (ifS (op2 neP (op2 ixP (varB 3) (constE (.int 0))) (op2 ixP (fzE (lstE [constE (.str ("road" : Str)), constE (.str ("ring" : Str))])) (op1 intP (bvE (op2 isNP (fzE (callM0 f_m_setting (varE 0))) (constE .none))))))
  (retS (valF (constE (.bool false))))
  (skipS))
  (seqS (ifS (op2 eqP (op2 ixP (varB 3) (constE (.int 0))) (constE (.str ("ring" : Str))))
  (retS (valF (callS f__law_is_ring (argsE [varB 1, op2 ixP (varB 3) (constE (.int 1))]))))
  (skipS))
  (retS (valF (andV (callS f__law_is_road (argsE [varB 1, op2 ixP (varB 3) (constE (.int 1))])) (andV (bvE (op2 (inP false) (op1 negP (op2 ixP (op2 ixP (varB 3) (constE (.int 1))) (constE (.int 0)))) (varB 2))) (bvE (op2 (inP false) (op2 ixP (op2 ixP (varB 3) (constE (.int 1))) (op1 negP (constE (.int 1)))) (varB 2))))))))))
def f__law_answers : List PD → R D := fnE 4 4 g__law_answers
theorem f__law_answers_len (ds : List PD) (h : ds.length ≠ 4) : f__law_answers ds = .bad := fnE_len ds h
-- k12
def f__law_asked : List PD → R D := askedF f_m_ask f__law_answers
theorem f__law_asked_len (ds : List PD) (h : ds.length ≠ 3) : f__law_asked ds = .bad := askedF_len ds h
-- k12
def g__law_put_ill : Env → Out := seqS (tryS (dropS (callM f_m_add (varE 0) (argsE [varE 1]))) ("BadSay" : Str) (.bool true))
  (retS (valF (constE (.bool false))))
def f__law_put_ill : List PD → R D := fnE 3 2 g__law_put_ill
theorem f__law_put_ill_len (ds : List PD) (h : ds.length ≠ 2) : f__law_put_ill ds = .bad := fnE_len ds h
-- k12
def g__law_taken_ill : Env → Out := seqS (tryS (dropS (callM0 f_m_back (varE 0))) ("EmptyBook" : Str) (.bool true))
  (retS (valF (constE (.bool false))))
def f__law_taken_ill : List PD → R D := fnE 2 1 g__law_taken_ill
theorem f__law_taken_ill_len (ds : List PD) (h : ds.length ≠ 1) : f__law_taken_ill ds = .bad := fnE_len ds h
-- k12
def g__law_deed : Env → Out := seqS (setS 4 (valF (tupE [callS f__law_lit_by (argsE [op2 modP (op2 divP (varB 2) (constE (.int 8))) (op2 mulP (constE (.int 2)) (varB 3))]), callS f__law_lit_by (argsE [op2 modP (op2 divP (varB 2) (op2 mulP (constE (.int 16)) (varB 3))) (op2 mulP (constE (.int 2)) (varB 3))])])))
  (seqS (setS 5 (valF (op2 modP (varB 2) (constE (.int 8)))))
  (seqS (ifS (op2 ltP (varB 5) (constE (.int 3)))
  (badS)
  (skipS))
  (seqS (ifS (op2 eqP (varB 5) (constE (.int 3)))
  (seqS (setS 6 (valF (op2 ixP (fzE (lstE [constE (.int 0), op2 addP (op2 addP (varB 3) (constE (.int 1))) (op2 modP (op2 divP (varB 2) (constE (.int 64))) (constE (.int 1000))), op2 subP (op1 negP (varB 3)) (constE (.int 1))])) (op2 modP (op2 divP (varB 2) (constE (.int 8))) (constE (.int 3))))))
  (seqS (setS 7 (valF (op2 ixP (fzE (lstE [tupE [op2 ixP (varB 4) (constE (.int 0)), varE 6], tupE [varE 6, op2 ixP (varB 4) (constE (.int 0))]])) (op2 modP (op2 divP (varB 2) (constE (.int 24))) (constE (.int 2))))))
  (retS (callE f__law_put_ill (argsE [varE 0, varE 7])))))
  (skipS))
  (seqS (ifS (op2 eqP (varB 5) (constE (.int 4)))
  (seqS (ifS (op2 eqP (op1 lenP (varB 1)) (constE (.int 0)))
  (retS (callE f__law_taken_ill (argsE [varE 0])))
  (skipS))
  (badS))
  (skipS))
  (seqS (ifS (op2 eqP (varB 5) (constE (.int 5)))
  (seqS (ifS (notT (op1 asB (fzE (callE f__law_told (argsE [varE 0, varE 1])))))
  (retS (valF (constE (.bool false))))
  (skipS))
  (seqS (clr2 8 (callM0 f_m_setting (varE 0)) (callM0 f_m_ring (varE 0)))
  (retS (callE f__law_told (argsE [varE 0, varE 1])))))
  (skipS))
  (retS (callE f__law_asked (argsE [varE 0, varE 1, varE 4]))))))))
def f__law_deed : List PD → R D := fnE 9 4 g__law_deed
theorem f__law_deed_len (ds : List PD) (h : ds.length ≠ 4) : f__law_deed ds = .bad := fnE_len ds h
-- k13
def g_lit_shown : Env → Out := seqS (ifS (op2 ltP (varB 0) (constE (.int 0)))
  (retS (valF (op2 addP (constE (.str ("not " : Str))) (op1 strP (op1 negP (varB 0))))))
  (skipS))
  (retS (valF (op1 strP (varB 0))))
def f_lit_shown : List PD → R D := fnE 1 1 g_lit_shown
theorem f_lit_shown_len (ds : List PD) (h : ds.length ≠ 1) : f_lit_shown ds = .bad := fnE_len ds h
-- k13
def g_shown : Env → Out := seqS (ifS (op2 eqP (op2 ixP (varB 0) (constE (.int 0))) (op2 ixP (varB 0) (constE (.int 1))))
  (retS (valF (callS f_lit_shown (argsE [op2 ixP (varB 0) (constE (.int 0))]))))
  (skipS))
  (retS (valF (op2 addP (op2 addP (callS f_lit_shown (argsE [op2 ixP (varB 0) (constE (.int 0))])) (constE (.str (" or " : Str)))) (callS f_lit_shown (argsE [op2 ixP (varB 0) (constE (.int 1))])))))
def f_shown : List PD → R D := fnE 1 1 g_shown
theorem f_shown_len (ds : List PD) (h : ds.length ≠ 1) : f_shown ds = .bad := fnE_len ds h
-- k13
def l_switch_of_1 : Env → Out := ifS (op2 (inP true) (varB 3) (constE (.str ("0123456789" : Str))))
  (raiseS ("BadLine" : Str))
  (skipS)
def g_switch_of : Env → Out := seqS (ifS (op2 geP (varB 1) (op1 lenP (varB 0)))
  (raiseS ("BadLine" : Str))
  (skipS))
  (seqS (setS 2 (valF (op2 ixP (varB 0) (varB 1))))
  (seqS (ifS (orT (op2 eqP (varB 2) (constE (.str ("" : Str)))) (orT (op2 gtP (op1 lenP (varB 2)) (constE (.int 2))) (op2 eqP (op2 ixP (varB 2) (constE (.int 0))) (constE (.str ("0" : Str))))))
  (raiseS ("BadLine" : Str))
  (skipS))
  (seqS (forStr (varE 2) (tgN 3)
  (l_switch_of_1))
  (seqS (ifS (op2 gtP (op1 intP (varB 2)) (constE (.int 60)))
  (raiseS ("BadLine" : Str))
  (skipS))
  (retS (valF (op1 intP (varB 2))))))))
def f_switch_of : List PD → R D := fnE 4 2 g_switch_of
theorem f_switch_of_len (ds : List PD) (h : ds.length ≠ 2) : f_switch_of ds = .bad := fnE_len ds h
-- k13
def g_lit_of : Env → Out := seqS (ifS (op2 eqP (fzE (sliceL (varB 0) (partE (varB 1)) (partE (op2 addP (varB 1) (constE (.int 1)))))) (fzE (lstE [constE (.str ("not" : Str))])))
  (retS (valF (tupE [op1 negP (callS f_switch_of (argsE [varB 0, op2 addP (varB 1) (constE (.int 1))])), op2 addP (varB 1) (constE (.int 2))])))
  (skipS))
  (retS (valF (tupE [callS f_switch_of (argsE [varB 0, varB 1]), op2 addP (varB 1) (constE (.int 1))])))
def f_lit_of : List PD → R D := fnE 2 2 g_lit_of
theorem f_lit_of_len (ds : List PD) (h : ds.length ≠ 2) : f_lit_of ds = .bad := fnE_len ds h
-- k13
def g_read : Env → Out := seqS (setS 1 (valF (fzE (onStr splitP (varB 0) (constE (.str (" " : Str)))))))
  (seqS (setS 2 (valF (fzE (callE f_lit_of (argsE [varE 1, constE (.int 0)])))))
  (seqS (setS 3 (valF (op2 ixP (varB 2) (constE (.int 0)))))
  (seqS (ifS (op2 eqP (op2 ixP (varB 2) (constE (.int 1))) (op1 lenP (varB 1)))
  (retS (lstE [tupE [varE 3, varE 3]]))
  (skipS))
  (seqS (setS 4 (valF (op2 ixP (varB 1) (op2 ixP (varB 2) (constE (.int 1))))))
  (seqS (setS 2 (valF (fzE (callE f_lit_of (argsE [varE 1, op2 addP (op2 ixP (varB 2) (constE (.int 1))) (constE (.int 1))])))))
  (seqS (setS 5 (valF (op2 ixP (varB 2) (constE (.int 0)))))
  (seqS (ifS (op2 ltP (op2 ixP (varB 2) (constE (.int 1))) (op1 lenP (varB 1)))
  (raiseS ("BadLine" : Str))
  (skipS))
  (seqS (ifS (op2 eqP (varB 4) (constE (.str ("or" : Str))))
  (retS (lstE [tupE [varE 3, varE 5]]))
  (skipS))
  (seqS (ifS (op2 eqP (varB 4) (constE (.str ("then" : Str))))
  (retS (lstE [tupE [op1 negP (varB 3), varE 5]]))
  (skipS))
  (seqS (ifS (op2 eqP (varB 4) (constE (.str ("as" : Str))))
  (retS (lstE [tupE [op1 negP (varB 3), varE 5], tupE [varE 3, op1 negP (varB 5)]]))
  (skipS))
  (seqS (ifS (op2 eqP (varB 4) (constE (.str ("unlike" : Str))))
  (retS (lstE [tupE [varE 3, varE 5], tupE [op1 negP (varB 3), op1 negP (varB 5)]]))
  (skipS))
  (raiseS ("BadLine" : Str)))))))))))))
def f_read : List PD → R D := fnE 6 1 g_read
theorem f_read_len (ds : List PD) (h : ds.length ≠ 1) : f_read ds = .bad := fnE_len ds h
-- k13
def g__law_cell_at_k13 : Env → Out := seqS (ifS (op2 ltP (varB 1) (op1 lenP (varB 0)))
  (retS (valF (op2 ixP (varB 0) (varB 1))))
  (skipS))
  (retS (valF (constE (.int 0))))
def f__law_cell_at_k13 : List PD → R D := fnE 2 2 g__law_cell_at_k13
theorem f__law_cell_at_k13_len (ds : List PD) (h : ds.length ≠ 2) : f__law_cell_at_k13 ds = .bad := fnE_len ds h
-- k13
def g__law_lit_by_k13 : Env → Out := seqS (ifS (op2 eqP (op2 modP (varB 0) (constE (.int 2))) (constE (.int 1)))
  (retS (valF (op1 negP (op2 addP (op2 divP (varB 0) (constE (.int 2))) (constE (.int 1))))))
  (skipS))
  (retS (valF (op2 addP (op2 divP (varB 0) (constE (.int 2))) (constE (.int 1)))))
def f__law_lit_by_k13 : List PD → R D := fnE 1 1 g__law_lit_by_k13
theorem f__law_lit_by_k13_len (ds : List PD) (h : ds.length ≠ 1) : f__law_lit_by_k13 ds = .bad := fnE_len ds h
-- k13
def g__law_whole_k13 : Env → Out := retS (valF (andV (op1 (isiP "int") (varB 0)) (notV (op1 (isiP "bool") (varB 0)))))
def f__law_whole_k13 : List PD → R D := fnE 1 1 g__law_whole_k13
theorem f__law_whole_k13_len (ds : List PD) (h : ds.length ≠ 1) : f__law_whole_k13 ds = .bad := fnE_len ds h
-- k13
def g__law_lit_shown : Env → Out := seqS (ifS (op2 ltP (varB 0) (constE (.int 0)))
  (retS (valF (op2 addP (constE (.str ("not " : Str))) (op1 strP (op1 negP (varB 0))))))
  (skipS))
  (retS (valF (op1 strP (varB 0))))
def f__law_lit_shown : List PD → R D := fnE 1 1 g__law_lit_shown
theorem f__law_lit_shown_len (ds : List PD) (h : ds.length ≠ 1) : f__law_lit_shown ds = .bad := fnE_len ds h
-- k13
def l__law_says_are_1 : Env → Out := seqS (ifS (orT (notT (op1 asB (op1 (isiP "tuple") (op2 ixP (varB 0) (varB 2))))) (op2 neP (op1 lenP (op2 ixP (varB 0) (varB 2))) (constE (.int 2))))
  (retS (valF (constE (.bool false))))
  (skipS))
  (ifS (orT (notT (op1 asB (callS f__law_whole_k13 (argsE [op2 ixP (op2 ixP (varB 0) (varB 2)) (constE (.int 0))])))) (notT (op1 asB (callS f__law_whole_k13 (argsE [op2 ixP (op2 ixP (varB 0) (varB 2)) (constE (.int 1))])))))
  (retS (valF (constE (.bool false))))
  (skipS))
def g__law_says_are : Env → Out := seqS (ifS (orT (notT (op1 asB (op1 (isiP "list") (varB 0)))) (op2 neP (op1 lenP (varB 0)) (op1 lenP (varB 1))))
  (retS (valF (constE (.bool false))))
  (skipS))
  (seqS (forR (argsE [op1 lenP (varB 1)]) (tgN 2)
  (l__law_says_are_1))
  (retS (valF (bvE (op2 eqP (varB 0) (varB 1))))))
def f__law_says_are : List PD → R D := fnE 3 2 g__law_says_are
theorem f__law_says_are_len (ds : List PD) (h : ds.length ≠ 2) : f__law_says_are ds = .bad := fnE_len ds h
-- k13
def g_law_k13 : Env → Out := seqS (setS 1 (valF (callS f__law_lit_by_k13 (argsE [op2 modP (callS f__law_cell_at_k13 (argsE [varB 0, constE (.int 0)])) (constE (.int 120))]))))
  (seqS (setS 2 (valF (callS f__law_lit_by_k13 (argsE [op2 modP (callS f__law_cell_at_k13 (argsE [varB 0, constE (.int 1)])) (constE (.int 120))]))))
  (seqS (ifS (op2 eqP (op2 modP (callS f__law_cell_at_k13 (argsE [varB 0, constE (.int 2)])) (constE (.int 3))) (constE (.int 1)))
  (setS 2 (valF (varE 1)))
  (skipS))
  (seqS (setS 3 (valF (callS f__law_lit_shown (argsE [varB 1]))))
  (seqS (ifS (op2 neP (varB 1) (varB 2))
  (setS 3 (valF (op2 addP (op2 addP (varB 3) (constE (.str (" or " : Str)))) (callS f__law_lit_shown (argsE [varB 2])))))
  (skipS))
  (seqS (setS 4 (valF (callS f_shown (argsE [tupE [varE 1, varE 2]]))))
  (seqS (ifS (orT (notT (op1 asB (op1 (isiP "str") (varB 4)))) (op2 neP (varB 4) (varB 3)))
  (retS (valF (constE (.bool false))))
  (skipS))
  (seqS (setS 5 (callE f_read (argsE [varE 3])))
  (seqS (ifS (notT (op1 asB (callS f__law_says_are (argsE [varB 5, fzE (lstE [tupE [varE 1, varE 2]])]))))
  (retS (valF (constE (.bool false))))
  (skipS))
  (seqS (pushS 5 (tupE [constE (.int 1), constE (.int 1)]))
  (seqS (ifS (notT (op1 asB (callS f__law_says_are (argsE [fzE (callE f_read (argsE [varE 3])), fzE (lstE [tupE [varE 1, varE 2]])]))))
  (retS (valF (constE (.bool false))))
  (skipS))
  (seqS (setS 6 (valF (op2 modP (callS f__law_cell_at_k13 (argsE [varB 0, constE (.int 3)])) (constE (.int 4)))))
  (seqS (setS 7 (valF (op2 ixP (fzE (lstE [constE (.str ("or" : Str)), constE (.str ("then" : Str)), constE (.str ("as" : Str)), constE (.str ("unlike" : Str))])) (varB 6))))
  (seqS (setS 8 (valF (op2 ixP (fzE (lstE [fzE (lstE [tupE [varE 1, varE 2]]), fzE (lstE [tupE [op1 negP (varB 1), varE 2]]), fzE (lstE [tupE [op1 negP (varB 1), varE 2], tupE [varE 1, op1 negP (varB 2)]])])) (op2 modP (varB 6) (constE (.int 3))))))
  (seqS (ifS (op2 eqP (varB 6) (constE (.int 3)))
  (setS 8 (valF (fzE (lstE [tupE [varE 1, varE 2], tupE [op1 negP (varB 1), op1 negP (varB 2)]]))))
  (skipS))
  (seqS (setS 3 (valF (op2 addP (op2 addP (op2 addP (op2 addP (callS f__law_lit_shown (argsE [varB 1])) (constE (.str (" " : Str)))) (varB 7)) (constE (.str (" " : Str)))) (callS f__law_lit_shown (argsE [varB 2])))))
  (retS (valF (callS f__law_says_are (argsE [fzE (callE f_read (argsE [varE 3])), varB 8])))))))))))))))))))
def f_law_k13 : List PD → R D := fnE 9 1 g_law_k13
theorem f_law_k13_len (ds : List PD) (h : ds.length ≠ 1) : f_law_k13 ds = .bad := fnE_len ds h
-- k14
def g__law_word_by : Env → Out := seqS (setS 1 (valF (fzE (lstE [constE (.str ("not" : Str)), constE (.str ("or" : Str)), constE (.str ("then" : Str)), constE (.str ("as" : Str)), constE (.str ("unlike" : Str)), constE (.str ("and" : Str))]))))
  (seqS (setS 2 (valF (op2 modP (varB 0) (constE (.int 16)))))
  (seqS (ifS (op2 ltP (varB 2) (constE (.int 6)))
  (retS (valF (op2 ixP (varB 1) (varB 2))))
  (skipS))
  (seqS (ifS (op2 ltP (varB 2) (constE (.int 13)))
  (retS (valF (op1 strP (op2 modP (op2 divP (varB 0) (constE (.int 16))) (constE (.int 70))))))
  (skipS))
  (seqS (ifS (op2 eqP (varB 2) (constE (.int 13)))
  (retS (valF (op2 addP (constE (.str ("0" : Str))) (op1 strP (op2 modP (op2 divP (varB 0) (constE (.int 16))) (constE (.int 70)))))))
  (skipS))
  (seqS (ifS (op2 eqP (varB 2) (constE (.int 14)))
  (retS (valF (op2 addP (op2 ixP (constE (.str ("+-" : Str))) (op2 modP (op2 divP (varB 0) (constE (.int 16))) (constE (.int 2)))) (op1 strP (op2 modP (op2 divP (varB 0) (constE (.int 32))) (constE (.int 70)))))))
  (skipS))
  (seqS (setS 3 (valF (constE (.str (" !\"#$&'()*+,-./0123456789:;<=>?@ABCDEFGHIJKLMNOPQRSTUVWXYZ[\\]^_`" : Str)))))
  (seqS (setS 3 (valF (op2 addP (varB 3) (constE (.str ("abcdefghijklmnopqrstuvwxyz{|}~" : Str))))))
  (seqS (ifS (op2 eqP (op2 modP (op2 divP (varB 0) (constE (.int 16))) (constE (.int 2))) (constE (.int 1)))
  (retS (valF (op2 addP (op2 addP (op1 strP (op2 modP (op2 divP (varB 0) (constE (.int 32))) (constE (.int 70)))) (op2 ixP (varB 3) (op2 modP (op2 divP (varB 0) (constE (.int 2240))) (constE (.int 94))))) (op1 strP (op2 modP (op2 divP (varB 0) (constE (.int 3))) (constE (.int 10)))))))
  (skipS))
  (retS (valF (op2 ixP (varB 3) (op2 modP (op2 divP (varB 0) (constE (.int 32))) (constE (.int 94))))))))))))))
def f__law_word_by : List PD → R D := fnE 4 1 g__law_word_by
theorem f__law_word_by_len (ds : List PD) (h : ds.length ≠ 1) : f__law_word_by ds = .bad := fnE_len ds h
-- k14
def l__law_number_1 : Env → Out := ifS (op2 (inP true) (varB 1) (constE (.str ("0123456789" : Str))))
  (retS (valF (constE (.int 0))))
  (skipS)
def g__law_number : Env → Out := seqS (ifS (orT (op2 eqP (varB 0) (constE (.str ("" : Str)))) (orT (op2 gtP (op1 lenP (varB 0)) (constE (.int 2))) (op2 eqP (op2 ixP (varB 0) (constE (.int 0))) (constE (.str ("0" : Str))))))
  (retS (valF (constE (.int 0))))
  (skipS))
  (seqS (forStr (varE 0) (tgN 1)
  (l__law_number_1))
  (seqS (ifS (op2 gtP (op1 intP (varB 0)) (constE (.int 60)))
  (retS (valF (constE (.int 0))))
  (skipS))
  (retS (valF (op1 intP (varB 0))))))
def f__law_number : List PD → R D := fnE 2 1 g__law_number
theorem f__law_number_len (ds : List PD) (h : ds.length ≠ 1) : f__law_number ds = .bad := fnE_len ds h
-- k14
def g__law_taken : Env → Out := seqS (ifS (andT (op2 eqP (fzE (sliceL (varB 0) (noPart) (partE (constE (.int 1))))) (fzE (lstE [constE (.str ("not" : Str))]))) (op2 gtP (op1 lenP (varB 0)) (constE (.int 1))))
  (retS (valF (tupE [op1 negP (callS f__law_number (argsE [op2 ixP (varB 0) (constE (.int 1))])), fzE (sliceL (varB 0) (partE (constE (.int 2))) (noPart))])))
  (skipS))
  (seqS (ifS (op2 gtP (op1 lenP (varB 0)) (constE (.int 0)))
  (retS (valF (tupE [callS f__law_number (argsE [op2 ixP (varB 0) (constE (.int 0))]), fzE (sliceL (varB 0) (partE (constE (.int 1))) (noPart))])))
  (skipS))
  (retS (valF (tupE [constE (.int 0), fzE (lstE [])]))))
def f__law_taken : List PD → R D := fnE 1 1 g__law_taken
theorem f__law_taken_len (ds : List PD) (h : ds.length ≠ 1) : f__law_taken ds = .bad := fnE_len ds h
-- k14
def g__law_due : Env → Out := seqS (setS 1 (valF (fzE (callE f__law_taken (argsE [fzE (onStr splitP (varB 0) (constE (.str (" " : Str))))])))))
  (seqS (ifS (op2 eqP (op2 ixP (varB 1) (constE (.int 0))) (constE (.int 0)))
  (retS (valF (constE .none)))
  (skipS))
  (seqS (ifS (op2 eqP (op1 lenP (op2 ixP (varB 1) (constE (.int 1)))) (constE (.int 0)))
  (retS (lstE [tupE [op2 ixP (varB 1) (constE (.int 0)), op2 ixP (varB 1) (constE (.int 0))]]))
  (skipS))
  (seqS (setS 2 (valF (fzE (callE f__law_taken (argsE [fzE (sliceL (op2 ixP (varB 1) (constE (.int 1))) (partE (constE (.int 1))) (noPart))])))))
  (seqS (ifS (orT (op2 eqP (op2 ixP (varB 2) (constE (.int 0))) (constE (.int 0))) (op2 gtP (op1 lenP (op2 ixP (varB 2) (constE (.int 1)))) (constE (.int 0))))
  (retS (valF (constE .none)))
  (skipS))
  (seqS (setS 3 (valF (op2 ixP (varB 1) (constE (.int 0)))))
  (seqS (setS 4 (valF (op2 ixP (varB 2) (constE (.int 0)))))
  (seqS (setS 5 (valF (op2 ixP (op2 ixP (varB 1) (constE (.int 1))) (constE (.int 0)))))
  (seqS (ifS (op2 eqP (varB 5) (constE (.str ("or" : Str))))
  (retS (lstE [tupE [varE 3, varE 4]]))
  (skipS))
  (seqS (ifS (op2 eqP (varB 5) (constE (.str ("then" : Str))))
  (retS (lstE [tupE [op1 negP (varB 3), varE 4]]))
  (skipS))
  (seqS (ifS (op2 eqP (varB 5) (constE (.str ("as" : Str))))
  (retS (lstE [tupE [op1 negP (varB 3), varE 4], tupE [varE 3, op1 negP (varB 4)]]))
  (skipS))
  (seqS (ifS (op2 eqP (varB 5) (constE (.str ("unlike" : Str))))
  (retS (lstE [tupE [varE 3, varE 4], tupE [op1 negP (varB 3), op1 negP (varB 4)]]))
  (skipS))
  (retS (valF (constE .none))))))))))))))
def f__law_due : List PD → R D := fnE 6 1 g__law_due
theorem f__law_due_len (ds : List PD) (h : ds.length ≠ 1) : f__law_due ds = .bad := fnE_len ds h
-- k14
def g__law_read : Env → Out := seqS (tryS (setS 1 (valF (fzE (callE f_read (argsE [varE 0]))))) ("BadLine" : Str) (.tuple [.bool false, .bool true]))
  (retS (valF (tupE [constE (.bool true), varE 1])))
def f__law_read : List PD → R D := fnE 4 1 g__law_read
theorem f__law_read_len (ds : List PD) (h : ds.length ≠ 1) : f__law_read ds = .bad := fnE_len ds h
-- k14
def l__law_right_k14_1 : Env → Out := seqS (ifS (orT (notT (op1 asB (op1 (isiP "tuple") (varB 2)))) (op2 neP (op1 lenP (varB 2)) (constE (.int 2))))
  (retS (valF (constE (.bool false))))
  (skipS))
  (ifS (orT (notT (op1 asB (callS f__law_whole_k13 (argsE [op2 ixP (varB 2) (constE (.int 0))])))) (notT (op1 asB (callS f__law_whole_k13 (argsE [op2 ixP (varB 2) (constE (.int 1))])))))
  (retS (valF (constE (.bool false))))
  (skipS))
def g__law_right_k14 : Env → Out := seqS (ifS (op2 isNP (varB 1) (constE .none))
  (retS (valF (bvE (op2 eqP (varB 0) (tupE [constE (.bool false), constE (.bool true)])))))
  (skipS))
  (seqS (ifS (orT (notT (op1 asB (op2 ixP (varB 0) (constE (.int 0))))) (orT (notT (op1 asB (op1 (isiP "list") (op2 ixP (varB 0) (constE (.int 1)))))) (op2 neP (op1 lenP (op2 ixP (varB 0) (constE (.int 1)))) (op1 lenP (varB 1)))))
  (retS (valF (constE (.bool false))))
  (skipS))
  (seqS (forL (op2 ixP (varB 0) (constE (.int 1))) (tgN 2)
  (l__law_right_k14_1))
  (retS (valF (bvE (op2 eqP (op2 ixP (varB 0) (constE (.int 1))) (varB 1)))))))
def f__law_right_k14 : List PD → R D := fnE 3 2 g__law_right_k14
theorem f__law_right_k14_len (ds : List PD) (h : ds.length ≠ 2) : f__law_right_k14 ds = .bad := fnE_len ds h
-- k14
def l_law_k14_1 : Env → Out := pushS 1 (callS f__law_word_by (argsE [callS f__law_cell_at_k13 (argsE [varB 0, op2 addP (constE (.int 2)) (varB 2)])]))
def g_law_k14 : Env → Out := seqS (setS 1 (lstE []))
  (seqS (forR (argsE [op2 modP (callS f__law_cell_at_k13 (argsE [varB 0, constE (.int 0)])) (constE (.int 7))]) (tgN 2)
  (l_law_k14_1))
  (seqS (setS 3 (valF (onStr joinP (constE (.str (" " : Str))) (varB 1))))
  (seqS (ifS (op2 eqP (op2 modP (op2 divP (callS f__law_cell_at_k13 (argsE [varB 0, constE (.int 0)])) (constE (.int 7))) (constE (.int 8))) (constE (.int 1)))
  (seqS (setS 4 (valF (op2 modP (callS f__law_cell_at_k13 (argsE [varB 0, constE (.int 1)])) (op2 addP (op1 lenP (varB 3)) (constE (.int 1))))))
  (setS 3 (valF (op2 addP (op2 addP (sliceS (varB 3) (noPart) (partE (varB 4))) (constE (.str (" " : Str)))) (sliceS (varB 3) (partE (varB 4)) (noPart))))))
  (skipS))
  (seqS (ifS (op2 eqP (op2 modP (op2 divP (callS f__law_cell_at_k13 (argsE [varB 0, constE (.int 0)])) (constE (.int 56))) (constE (.int 3))) (constE (.int 1)))
  (seqS (setS 5 (valF (callS f__law_cell_at_k13 (argsE [varB 0, constE (.int 1)]))))
  (seqS (setS 6 (valF (op2 ixP (fzE (lstE [constE (.str ("or" : Str)), constE (.str ("then" : Str)), constE (.str ("as" : Str)), constE (.str ("unlike" : Str)), constE (.str ("and" : Str))])) (op2 modP (callS f__law_cell_at_k13 (argsE [varB 0, constE (.int 2)])) (constE (.int 5))))))
  (seqS (setS 1 (lstE [op1 strP (op2 modP (varB 5) (constE (.int 70))), varE 6, constE (.str ("not" : Str)), op1 strP (op2 modP (op2 divP (varB 5) (constE (.int 70))) (constE (.int 70))), callS f__law_word_by (argsE [callS f__law_cell_at_k13 (argsE [varB 0, constE (.int 3)])])]))
  (setS 3 (valF (onStr joinP (constE (.str (" " : Str))) (fzE (sliceL (varB 1) (noPart) (partE (op2 addP (constE (.int 1)) (op2 modP (op2 divP (varB 5) (constE (.int 4900))) (constE (.int 5)))))))))))))
  (skipS))
  (seqS (setS 7 (valF (fzE (callE f__law_due (argsE [varE 3])))))
  (retS (valF (andV (callS f__law_right_k14 (argsE [fzE (callE f__law_read (argsE [varE 3])), varB 7])) (callS f__law_right_k14 (argsE [fzE (callE f__law_read (argsE [varE 3])), varB 7]))))))))))
def f_law_k14 : List PD → R D := fnE 8 1 g_law_k14
theorem f_law_k14_len (ds : List PD) (h : ds.length ≠ 1) : f_law_k14 ds = .bad := fnE_len ds h
-- k15
def g__law_refused_k15 : Env → Out := seqS (setS 2 (valF (constE .none)))
  (seqS (tryN 4 (dropS (callM f_m_add (varE 0) (argsE [varE 1]))) ("FullBook" : Str) (.tuple [.bool true, .bool false, .bool false]) ("BadSay" : Str) (.tuple [.bool false, .bool true, .bool false]) 2)
  (retV 2))
def f__law_refused_k15 : List PD → R D := fnE 4 2 g__law_refused_k15
theorem f__law_refused_k15_len (ds : List PD) (h : ds.length ≠ 2) : f__law_refused_k15 ds = .bad := fnE_len ds h
-- k16
def l__law_none_ahead_1 : Env → Out := seqS (setS 5 (valF (orV (bvE (op2 ltP (op1 lenP (varB 2)) (constE (.int 13)))) (bvE (op2 eqP (op2 modP (varB 4) (constE (.int 7))) (varB 3))))))
  (ifS (andT (op1 asB (varE 5)) (andT (op1 asB (op2 ixP (varB 2) (op2 subP (varB 4) (constE (.int 1))))) (notT (op1 asB (callS f__law_torn_k16 (argsE [fzE (callE f__law_reach_k16 (argsE [varE 0, fzE (op2 catP (fzE (op2 catP (varB 1) (fzE (callE f__law_lits_k16 (argsE [varE 2, op2 subP (varB 4) (constE (.int 1))]))))) (fzE (lstE [op1 negP (varB 4)])))]))]))))))
  (retS (valF (constE (.bool false))))
  (skipS))
def g__law_none_ahead : Env → Out := seqS (forR (argsE [constE (.int 1), op2 addP (op1 lenP (varB 2)) (constE (.int 1))]) (tgN 4)
  (l__law_none_ahead_1))
  (retS (valF (constE (.bool true))))
def f__law_none_ahead : List PD → R D := fnE 6 4 g__law_none_ahead
theorem f__law_none_ahead_len (ds : List PD) (h : ds.length ≠ 4) : f__law_none_ahead ds = .bad := fnE_len ds h
-- k16
def g_law_k16 : Env → Out := seqS (setS 1 (valF (callS f__law_many_by (argsE [callS f__law_cell_at (argsE [varB 0, constE (.int 0)]), constE (.int 7)]))))
  (seqS (setS 2 (valF (fzE (callE f__law_bits_by (argsE [callS f__law_cell_at (argsE [varB 0, constE (.int 1)]), varE 1])))))
  (seqS (setS 3 (valF (callS f__law_cell_at (argsE [varB 0, constE (.int 3)]))))
  (seqS (setS 4 (valF (fzE (callE f__law_far_pile (argsE [callS f__law_cell_at (argsE [varB 0, constE (.int 2)]), varE 1, iteE (op2 ltP (varB 1) (constE (.int 13))) (op2 modP (varB 3) (constE (.int 25))) (op2 modP (varB 3) (constE (.int 13)))])))))
  (seqS (ifS (op2 gtP (op2 modP (op2 divP (varB 3) (constE (.int 25))) (constE (.int 3))) (constE (.int 0)))
  (setS 4 (valF (fzE (callE f__law_turned (argsE [varE 4, varE 2])))))
  (skipS))
  (seqS (setS 5 (valF (fzE (callE f__law_lits_k16 (argsE [varE 2, op2 modP (op2 divP (callS f__law_cell_at (argsE [varB 0, constE (.int 4)])) (constE (.int 4))) (op2 addP (varB 1) (constE (.int 1)))])))))
  (seqS (ifS (op2 gtP (op2 modP (callS f__law_cell_at (argsE [varB 0, constE (.int 4)])) (constE (.int 4))) (constE (.int 0)))
  (seqS (setS 5 (valF (fzE (lstE [callS f__law_lit_by (argsE [op2 modP (callS f__law_cell_at (argsE [varB 0, constE (.int 5)])) (op2 mulP (constE (.int 2)) (varB 1))]), callS f__law_lit_by (argsE [op2 modP (callS f__law_cell_at (argsE [varB 0, constE (.int 6)])) (op2 mulP (constE (.int 2)) (varB 1))])]))))
  (setS 5 (valF (fzE (sliceL (varB 5) (noPart) (partE (op2 subP (op2 modP (callS f__law_cell_at (argsE [varB 0, constE (.int 4)])) (constE (.int 4))) (constE (.int 1)))))))))
  (skipS))
  (seqS (setS 6 (valF (fzE (lstE [fzE (op1 listP (varB 4)), fzE (op1 listP (varB 5))]))))
  (seqS (setS 7 (valF (fzE (callE f_least_with (argsE [varE 1, op2 ixP (varB 6) (constE (.int 0)), op2 ixP (varB 6) (constE (.int 1))])))))
  (seqS (ifS (op2 neP (varB 6) (fzE (lstE [varE 4, varE 5])))
  (retS (valF (constE (.bool false))))
  (skipS))
  (seqS (ifS (op2 isNP (varB 7) (constE .none))
  (retS (valF (orV (callS f__law_torn_k16 (argsE [fzE (callE f__law_reach_k16 (argsE [varE 4, varE 5]))])) (callS f__law_is_ring (argsE [varB 4, fzE (callE f_clash (argsE [varE 1, fzE (op1 listP (varB 4))]))])))))
  (skipS))
  (seqS (ifS (orT (notT (op1 asB (callS f__law_is_setting (argsE [varB 7, varB 1])))) (notT (op1 asB (callS f__law_all_true (argsE [fzE (op2 catP (varB 4) (fzE (lcL 8 (varE 5) (yesT) (tupE [varE 8, varE 8])))), varB 7])))))
  (retS (valF (constE (.bool false))))
  (skipS))
  (retS (valF (callS f__law_none_ahead (argsE [varB 4, varB 5, varB 7, op2 modP (callS f__law_cell_at (argsE [varB 0, constE (.int 4)])) (constE (.int 7))])))))))))))))))
def f_law_k16 : List PD → R D := fnE 9 1 g_law_k16
theorem f_law_k16_len (ds : List PD) (h : ds.length ≠ 1) : f_law_k16 ds = .bad := fnE_len ds h
-- k17
def l__law_shut_1 : Env → Out := ifS (andT (notT (op1 asB (op2 ixP (varB 1) (op2 subP (varB 3) (constE (.int 1)))))) (notT (op1 asB (callS f__law_torn_k16 (argsE [fzE (callE f__law_reach_k16 (argsE [varE 0, fzE (op2 catP (fzE (callE f__law_lits_k16 (argsE [varE 1, op2 subP (varB 3) (constE (.int 1))]))) (fzE (lstE [varE 3])))]))])))))
  (retS (valF (constE (.bool false))))
  (skipS)
def g__law_shut : Env → Out := seqS (forR (argsE [varE 2, op2 addP (op1 lenP (varB 1)) (constE (.int 1))]) (tgN 3)
  (l__law_shut_1))
  (retS (valF (constE (.bool true))))
def f__law_shut : List PD → R D := fnE 4 3 g__law_shut
theorem f__law_shut_len (ds : List PD) (h : ds.length ≠ 3) : f__law_shut ds = .bad := fnE_len ds h
-- k17
def l__law_none_ahead_k17_1 : Env → Out := ifS (andT (op1 asB (op2 ixP (varB 1) (op2 subP (varB 3) (constE (.int 1))))) (notT (op1 asB (callS f__law_torn_k16 (argsE [fzE (callE f__law_reach_k16 (argsE [varE 0, fzE (op2 catP (fzE (callE f__law_lits_k16 (argsE [varE 1, op2 subP (varB 3) (constE (.int 1))]))) (fzE (lstE [op1 negP (varB 3)])))]))])))))
  (retS (valF (constE (.bool false))))
  (skipS)
def g__law_none_ahead_k17 : Env → Out := seqS (forR (argsE [varE 2, op2 addP (op1 lenP (varB 1)) (constE (.int 1))]) (tgN 3)
  (l__law_none_ahead_k17_1))
  (retS (valF (constE (.bool true))))
def f__law_none_ahead_k17 : List PD → R D := fnE 4 3 g__law_none_ahead_k17
theorem f__law_none_ahead_k17_len (ds : List PD) (h : ds.length ≠ 3) : f__law_none_ahead_k17 ds = .bad := fnE_len ds h
-- k17
def l_law_k17_1 : Env → Out := setS 7 (valF (op2 addP (varB 7) (constE (.int 1))))
def g_law_k17 : Env → Out := seqS (setS 1 (valF (op2 addP (constE (.int 1)) (op2 modP (callS f__law_cell_at (argsE [varB 0, constE (.int 0)])) (constE (.int 9))))))
  (seqS (setS 2 (valF (callS f__law_cell_at (argsE [varB 0, constE (.int 2)]))))
  (seqS (setS 3 (valF (fzE (callE f__law_far_pile (argsE [callS f__law_cell_at (argsE [varB 0, constE (.int 1)]), varE 1, op2 modP (varB 2) (constE (.int 13))])))))
  (seqS (ifS (op2 gtP (op2 modP (op2 divP (varB 2) (constE (.int 13))) (constE (.int 3))) (constE (.int 0)))
  (setS 3 (valF (fzE (callE f__law_turned (argsE [varE 3, fzE (callE f__law_bits_by (argsE [callS f__law_cell_at (argsE [varB 0, constE (.int 3)]), varE 1]))])))))
  (skipS))
  (seqS (setS 4 (valF (fzE (callE f__law_bits_by (argsE [callS f__law_cell_at (argsE [varB 0, constE (.int 4)]), varE 1])))))
  (seqS (setS 5 (valF (fzE (lstE [fzE (op1 listP (varB 3)), fzE (op1 listP (varB 4))]))))
  (seqS (setS 6 (valF (fzE (callE f_next_good (argsE [varE 1, op2 ixP (varB 5) (constE (.int 0)), op2 ixP (varB 5) (constE (.int 1))])))))
  (seqS (ifS (op2 neP (varB 5) (fzE (lstE [varE 3, varE 4])))
  (retS (valF (constE (.bool false))))
  (skipS))
  (seqS (ifS (op2 isNP (varB 6) (constE .none))
  (retS (valF (orV (callS f__law_shut (argsE [varB 3, varB 4, constE (.int 1)])) (callS f__law_is_ring (argsE [varB 3, fzE (callE f_clash (argsE [varE 1, fzE (op1 listP (varB 3))]))])))))
  (skipS))
  (seqS (ifS (orT (notT (op1 asB (callS f__law_is_setting (argsE [varB 6, varB 1])))) (orT (notT (op1 asB (callS f__law_all_true (argsE [varB 3, varB 6])))) (op2 eqP (varB 6) (varB 4))))
  (retS (valF (constE (.bool false))))
  (skipS))
  (seqS (setS 7 (valF (constE (.int 1))))
  (seqS (whileS (op2 eqP (op2 ixP (varB 6) (op2 subP (varB 7) (constE (.int 1)))) (op2 ixP (varB 4) (op2 subP (varB 7) (constE (.int 1)))))
  (l_law_k17_1))
  (retS (valF (andV (op2 ixP (varB 6) (op2 subP (varB 7) (constE (.int 1)))) (andV (callS f__law_shut (argsE [varB 3, varB 4, op2 addP (varB 7) (constE (.int 1))])) (callS f__law_none_ahead_k17 (argsE [varB 3, varB 6, op2 addP (varB 7) (constE (.int 1))])))))))))))))))))
def f_law_k17 : List PD → R D := fnE 8 1 g_law_k17
theorem f_law_k17_len (ds : List PD) (h : ds.length ≠ 1) : f_law_k17 ds = .bad := fnE_len ds h
-- k18
def l__law_both_1 : Env → Out := seqS (setS 4 (valF (fzE (callE f_least_with (argsE [varE 1, fzE (op1 listP (varB 0)), fzE (lstE [varE 3])])))))
  (ifS (orT (op2 isNP (varB 4) (constE .none)) (orT (notT (op1 asB (callS f__law_is_setting (argsE [varB 4, varB 1])))) (notT (op1 asB (callS f__law_all_true (argsE [fzE (op2 catP (varB 0) (fzE (lstE [tupE [varE 3, varE 3]]))), varB 4]))))))
  (retS (valF (constE (.bool false))))
  (skipS))
def g__law_both : Env → Out := seqS (forL (fzE (lstE [varE 2, op1 negP (varB 2)])) (tgN 3)
  (l__law_both_1))
  (retS (valF (constE (.bool true))))
def f__law_both : List PD → R D := fnE 5 3 g__law_both
theorem f__law_both_len (ds : List PD) (h : ds.length ≠ 3) : f__law_both ds = .bad := fnE_len ds h
-- k18
def l_law_k18_1 : Env → Out := seqS (ifS (orT (notT (op1 asB (callS f__law_whole (argsE [varB 6])))) (orT (op2 leP (op1 absP (varB 6)) (varB 5)) (orT (op2 gtP (op1 absP (varB 6)) (varB 1)) (op2 (inP true) (varB 6) (fzE (callE f__law_reach_k16 (argsE [varE 2, fzE (lstE [op1 negP (varB 6)])])))))))
  (retS (valF (constE (.bool false))))
  (skipS))
  (setS 5 (valF (op1 absP (varB 6))))
def l_law_k18_2 : Env → Out := seqS (setS 8 (valF (orV (bvE (op2 ltP (varB 1) (constE (.int 13)))) (bvE (op2 eqP (op2 modP (varB 7) (constE (.int 7))) (op2 modP (callS f__law_cell_at (argsE [varB 0, constE (.int 2)])) (constE (.int 7))))))))
  (ifS (andT (op1 asB (varE 8)) (andT (op2 (inP true) (varB 7) (varB 4)) (andT (op2 (inP true) (op1 negP (varB 7)) (varB 4)) (notT (op1 asB (callS f__law_both (argsE [varB 2, varB 1, varB 7])))))))
  (retS (valF (constE (.bool false))))
  (skipS))
def g_law_k18 : Env → Out := seqS (setS 1 (valF (callS f__law_many_by (argsE [callS f__law_cell_at (argsE [varB 0, constE (.int 0)]), constE (.int 7)]))))
  (seqS (setS 2 (valF (fzE (callE f__law_far_pile (argsE [callS f__law_cell_at (argsE [varB 0, constE (.int 1)]), varE 1, op2 modP (callS f__law_cell_at (argsE [varB 0, constE (.int 2)])) (constE (.int 17))])))))
  (seqS (setS 2 (valF (fzE (callE f__law_turned (argsE [varE 2, fzE (callE f__law_bits_by (argsE [callS f__law_cell_at (argsE [varB 0, constE (.int 3)]), varE 1]))])))))
  (seqS (setS 3 (valF (fzE (op1 listP (varB 2)))))
  (seqS (setS 4 (valF (fzE (callE f_settled (argsE [varE 1, varE 3])))))
  (seqS (ifS (orT (op2 neP (varB 3) (varB 2)) (notT (op1 asB (op1 (isiP "list") (varB 4)))))
  (retS (valF (constE (.bool false))))
  (skipS))
  (seqS (setS 5 (valF (constE (.int 0))))
  (seqS (forL (varE 4) (tgN 6)
  (l_law_k18_1))
  (seqS (forR (argsE [constE (.int 1), op2 addP (varB 1) (constE (.int 1))]) (tgN 7)
  (l_law_k18_2))
  (retS (valF (constE (.bool true))))))))))))
def f_law_k18 : List PD → R D := fnE 9 1 g_law_k18
theorem f_law_k18_len (ds : List PD) (h : ds.length ≠ 1) : f_law_k18 ds = .bad := fnE_len ds h
end
end Px
namespace Px
open PySem L2
def topS (i : Nat) : Stmt := PySem.Challenge.pw_eitherbook_k12_whole_book.main.body.getD i (.Pass ⟨0, 0, 0, 0⟩)
section
variable {P : Program} {w : World} {K : PySem.W.Frag} {mg : Str → Option Value} {base : Heap}
abbrev s_steps_from : Stmt := topS 8
abbrev N_steps_from : List Str := ["pile", "lit", "found", "say", "here", "there"]
theorem sc_steps_from : FnScope N_steps_from ["pile", "lit"] (defScope s_steps_from) := ⟨rfl, rfl, rfl, by decide +kernel, rfl, by decide +kernel, by decide +kernel⟩
theorem b_steps_from : ∀ (kV doc pm : Value) (an : Option Addr) (cdv ct : Value) (us : List Value), us.length = (["pile", "lit"] : List Str).length → bindArgs (PySem.W.fnOf "steps_from" "steps_from" (defArgs s_steps_from) (defBody s_steps_from) (defScope s_steps_from) .none kV doc pm an cdv ct) ⟨us, []⟩ = pure ((["pile", "lit"] : List Str).zip us) := fun _ _ _ _ _ _ us hl => match us, hl with | [_, _], _ => rfl
theorem k_steps_from (Hs : Has K mg "steps_from" s_steps_from ["pile", "lit"]) (Bl : Blt mg)  : Fct P w K mg base "steps_from" ["pile", "lit"] 1 f_steps_from :=
  fct_ok (g := g_steps_from) rfl rfl rfl Hs sc_steps_from (fun fa cdv A outer s H E C tk => xs_cons (xs_set (i := 2) sc_steps_from.nd (xf_lst (xa_nil)))
  (xs_cons (xs_forL C (xe_var 0) (pg_name (i := 3) sc_steps_from.nd rfl (by first | exact .inl rfl | exact .inr rfl)) tg_name nx_name
  (xs_one (xs_forL C (xe_fz (xf_lst (xa_cons (xe_tup (xa_cons (xe_ix (xb_var 3) (xb_of (xe_int))) (xa_cons (xe_ix (xb_var 3) (xb_of (xe_int))) xa_nil))) (xa_cons (xe_tup (xa_cons (xe_ix (xb_var 3) (xb_of (xe_int))) (xa_cons (xe_ix (xb_var 3) (xb_of (xe_int))) xa_nil))) xa_nil)))) (pg_tup rfl (pgs_cons (pg_name (i := 4) sc_steps_from.nd rfl (by first | exact .inl rfl | exact .inr rfl)) (pgs_cons (pg_name (i := 5) sc_steps_from.nd rfl (by first | exact .inl rfl | exact .inr rfl)) pgs_nil))) tg_tup nx_tup
  (xs_one (xs_if (xt_w (xw_and (xt_cmp (op_eqD C.room.units) r_eq (xb_var 4) (xb_of (xe_neg (xb_var 1))) (nomark _)) (xw_and1 (xt_cmp (op_niX (hu65 C.room)) r_ni (xb_var 5) (xb_var 2) (by rfl)))))
  (xs_one (xs_push 2 (xe_var 5)))
  (xs_nil))))))
  (xs_one (xs_retV 2))))
abbrev s_road : Stmt := topS 9
abbrev N_road : List Str := ["pile", "start", "goal", "ways", "seen", "at", "way", "there"]
theorem sc_road : FnScope N_road ["pile", "start", "goal"] (defScope s_road) := ⟨rfl, rfl, rfl, by decide +kernel, rfl, by decide +kernel, by decide +kernel⟩
theorem b_road : ∀ (kV doc pm : Value) (an : Option Addr) (cdv ct : Value) (us : List Value), us.length = (["pile", "start", "goal"] : List Str).length → bindArgs (PySem.W.fnOf "road" "road" (defArgs s_road) (defBody s_road) (defScope s_road) .none kV doc pm an cdv ct) ⟨us, []⟩ = pure ((["pile", "start", "goal"] : List Str).zip us) := fun _ _ _ _ _ _ us hl => match us, hl with | [_, _, _], _ => rfl
theorem k_road (Hs : Has K mg "road" s_road ["pile", "start", "goal"]) (Bl : Blt mg) (h_steps_from : Fct P w K mg base "steps_from" ["pile", "lit"] 1 f_steps_from) : Fct P w K mg base "road" ["pile", "start", "goal"] 2 f_road :=
  fct_ok (g := g_road) rfl rfl rfl Hs sc_road (fun fa cdv A outer s H E C tk => xs_cons (xs_set (i := 3) sc_road.nd (xf_lst (xa_cons (xe_fz (xf_lst (xa_cons (xe_var 1) xa_nil))) xa_nil)))
  (xs_cons (xs_set (i := 4) sc_road.nd (xf_dic1 (xe_var 1) (xe_bl)))
  (xs_cons (xs_set (i := 5) sc_road.nd (xf_of (xe_int)))
  (xs_cons (xs_while C (xt_cmp op_lt r_cmp (xb_var 5) (xb_of (xe_B call_len r_len (by rfl) Bl.len (by decide +kernel) (xb_var 3))) (nomark _))
  (xs_cons (xs_set (i := 6) sc_road.nd (xf_of (xe_ix (xb_var 3) (xb_var 5))))
  (xs_cons (xs_if (xt_cmp (op_eqD C.room.units) r_eq (xb_of (xe_ix (xb_var 6) (xb_of (xe_neg (xb_of (xe_int)))))) (xb_var 2) (nomark _))
  (xs_one (xs_retV 6))
  (xs_nil))
  (xs_cons (xs_forL C (xe_fz (xf_callF C h_steps_from (by decide) f_steps_from_len (xa_cons (xe_var 0) (xa_cons (xe_ix (xb_var 6) (xb_of (xe_neg (xb_of (xe_int))))) xa_nil)))) (pg_name (i := 7) sc_road.nd rfl (by first | exact .inl rfl | exact .inr rfl)) tg_name nx_name
  (xs_one (xs_if (xt_notInD C 4 (xe_var 7))
  (xs_cons (xs_putD C 4 (xe_bl) (xe_var 7))
  (xs_one (xs_push 3 (xe_fz (xf_op op_cat r_cat (xb_var 6) (xb_of (xe_fz (xf_lst (xa_cons (xe_var 7) xa_nil)))))))))
  (xs_nil))))
  (xs_one (xs_set (i := 5) sc_road.nd (xf_of (xe_op op_addX r_add (xb_var 5) (xb_of (xe_int))))))))))
  (xs_one (xs_ret (xf_of (xe_non))))))))
abbrev s_clash : Stmt := topS 10
abbrev N_clash : List Str := ["many", "pile", "k", "there", "back"]
theorem sc_clash : FnScope N_clash ["many", "pile"] (defScope s_clash) := ⟨rfl, rfl, rfl, by decide +kernel, rfl, by decide +kernel, by decide +kernel⟩
theorem b_clash : ∀ (kV doc pm : Value) (an : Option Addr) (cdv ct : Value) (us : List Value), us.length = (["many", "pile"] : List Str).length → bindArgs (PySem.W.fnOf "clash" "clash" (defArgs s_clash) (defBody s_clash) (defScope s_clash) .none kV doc pm an cdv ct) ⟨us, []⟩ = pure ((["many", "pile"] : List Str).zip us) := fun _ _ _ _ _ _ us hl => match us, hl with | [_, _], _ => rfl
theorem k_clash (Hs : Has K mg "clash" s_clash ["many", "pile"]) (Bl : Blt mg) (h_road : Fct P w K mg base "road" ["pile", "start", "goal"] 2 f_road) : Fct P w K mg base "clash" ["many", "pile"] 3 f_clash :=
  fct_ok (g := g_clash) rfl rfl rfl Hs sc_clash (fun fa cdv A outer s H E C tk => xs_cons (xs_forR2 C Bl.range (xa_cons (xe_int) (xa_cons (xe_op op_addX r_add (xb_var 0) (xb_of (xe_int))) xa_nil)) (pg_name (i := 2) sc_clash.nd rfl (by first | exact .inl rfl | exact .inr rfl)) tg_name nx_name
  (xs_cons (xs_set (i := 3) sc_clash.nd (xf_of (xe_fz (xf_callF C h_road (by decide) f_road_len (xa_cons (xe_var 1) (xa_cons (xe_var 2) (xa_cons (xe_neg (xb_var 2)) xa_nil)))))))
  (xs_cons (xs_set (i := 4) sc_clash.nd (xf_of (xe_fz (xf_callF C h_road (by decide) f_road_len (xa_cons (xe_var 1) (xa_cons (xe_neg (xb_var 2)) (xa_cons (xe_var 2) xa_nil)))))))
  (xs_one (xs_if (xt_w (xw_and (xt_cmp op_notN r_notN (xb_var 3) (xb_of (xe_non)) (nomark _)) (xw_and1 (xt_cmp op_notN r_notN (xb_var 4) (xb_of (xe_non)) (nomark _)))))
  (xs_one (xs_ret (xf_op op_cat r_cat (xb_var 3) (xb_of (xe_fz (xf_slice (xb_var 4) (xo_some (xb_of (xe_int))) (xo_none)))))))
  (xs_nil))))) argsE2)
  (xs_one (xs_ret (xf_of (xe_non)))))
abbrev s_spread : Stmt := topS 12
abbrev N_spread : List Str := ["pile", "starts", "found", "lit", "at", "there"]
theorem sc_spread : FnScope N_spread ["pile", "starts"] (defScope s_spread) := ⟨rfl, rfl, rfl, by decide +kernel, rfl, by decide +kernel, by decide +kernel⟩
theorem b_spread : ∀ (kV doc pm : Value) (an : Option Addr) (cdv ct : Value) (us : List Value), us.length = (["pile", "starts"] : List Str).length → bindArgs (PySem.W.fnOf "spread" "spread" (defArgs s_spread) (defBody s_spread) (defScope s_spread) .none kV doc pm an cdv ct) ⟨us, []⟩ = pure ((["pile", "starts"] : List Str).zip us) := fun _ _ _ _ _ _ us hl => match us, hl with | [_, _], _ => rfl
theorem k_spread (Hs : Has K mg "spread" s_spread ["pile", "starts"]) (Bl : Blt mg) (h_steps_from : Fct P w K mg base "steps_from" ["pile", "lit"] 1 f_steps_from) : Fct P w K mg base "spread" ["pile", "starts"] 2 f_spread :=
  fct_ok (g := g_spread) rfl rfl rfl Hs sc_spread (fun fa cdv A outer s H E C tk => xs_cons (xs_set (i := 2) sc_spread.nd (xf_lst (xa_nil)))
  (xs_cons (xs_forL C (xe_var 1) (pg_name (i := 3) sc_spread.nd rfl (by first | exact .inl rfl | exact .inr rfl)) tg_name nx_name
  (xs_one (xs_if (xt_cmp (op_niX (hu65 C.room)) r_ni (xb_var 3) (xb_var 2) (by rfl))
  (xs_one (xs_push 2 (xe_var 3)))
  (xs_nil))))
  (xs_cons (xs_set (i := 4) sc_spread.nd (xf_of (xe_int)))
  (xs_cons (xs_while C (xt_cmp op_lt r_cmp (xb_var 4) (xb_of (xe_B call_len r_len (by rfl) Bl.len (by decide +kernel) (xb_var 2))) (nomark _))
  (xs_cons (xs_forL C (xe_fz (xf_callF C h_steps_from (by decide) f_steps_from_len (xa_cons (xe_var 0) (xa_cons (xe_ix (xb_var 2) (xb_var 4)) xa_nil)))) (pg_name (i := 5) sc_spread.nd rfl (by first | exact .inl rfl | exact .inr rfl)) tg_name nx_name
  (xs_one (xs_if (xt_cmp (op_niX (hu65 C.room)) r_ni (xb_var 5) (xb_var 2) (by rfl))
  (xs_one (xs_push 2 (xe_var 5)))
  (xs_nil))))
  (xs_one (xs_set (i := 4) sc_spread.nd (xf_of (xe_op op_addX r_add (xb_var 4) (xb_of (xe_int))))))))
  (xs_one (xs_retV 2))))))
abbrev s_peaceful : Stmt := topS 13
abbrev N_peaceful : List Str := ["lits", "lit"]
theorem sc_peaceful : FnScope N_peaceful ["lits"] (defScope s_peaceful) := ⟨rfl, rfl, rfl, by decide +kernel, rfl, by decide +kernel, by decide +kernel⟩
theorem b_peaceful : ∀ (kV doc pm : Value) (an : Option Addr) (cdv ct : Value) (us : List Value), us.length = (["lits"] : List Str).length → bindArgs (PySem.W.fnOf "peaceful" "peaceful" (defArgs s_peaceful) (defBody s_peaceful) (defScope s_peaceful) .none kV doc pm an cdv ct) ⟨us, []⟩ = pure ((["lits"] : List Str).zip us) := fun _ _ _ _ _ _ us hl => match us, hl with | [_], _ => rfl
theorem k_peaceful (Hs : Has K mg "peaceful" s_peaceful ["lits"]) (Bl : Blt mg)  : Fct P w K mg base "peaceful" ["lits"] 1 f_peaceful :=
  fct_ok (g := g_peaceful) rfl rfl rfl Hs sc_peaceful (fun fa cdv A outer s H E C tk => xs_cons (xs_forL C (xe_var 0) (pg_name (i := 1) sc_peaceful.nd rfl (by first | exact .inl rfl | exact .inr rfl)) tg_name nx_name
  (xs_one (xs_if (xt_cmp (op_inX (hu65 C.room)) r_in (xb_of (xe_neg (xb_var 1))) (xb_var 0) (by rfl))
  (xs_one (xs_ret (xf_of (xe_bl))))
  (xs_nil))))
  (xs_one (xs_ret (xf_of (xe_bl)))))
abbrev s_least_with : Stmt := topS 14
abbrev N_least_with : List Str := ["many", "pile", "wishes", "kept", "k", "tried"]
theorem sc_least_with : FnScope N_least_with ["many", "pile", "wishes"] (defScope s_least_with) := ⟨rfl, rfl, rfl, by decide +kernel, rfl, by decide +kernel, by decide +kernel⟩
theorem b_least_with : ∀ (kV doc pm : Value) (an : Option Addr) (cdv ct : Value) (us : List Value), us.length = (["many", "pile", "wishes"] : List Str).length → bindArgs (PySem.W.fnOf "least_with" "least_with" (defArgs s_least_with) (defBody s_least_with) (defScope s_least_with) .none kV doc pm an cdv ct) ⟨us, []⟩ = pure ((["many", "pile", "wishes"] : List Str).zip us) := fun _ _ _ _ _ _ us hl => match us, hl with | [_, _, _], _ => rfl
theorem k_least_with (Hs : Has K mg "least_with" s_least_with ["many", "pile", "wishes"]) (Bl : Blt mg) (h_spread : Fct P w K mg base "spread" ["pile", "starts"] 2 f_spread) (h_peaceful : Fct P w K mg base "peaceful" ["lits"] 1 f_peaceful) : Fct P w K mg base "least_with" ["many", "pile", "wishes"] 3 f_least_with :=
  fct_ok (g := g_least_with) rfl rfl rfl Hs sc_least_with (fun fa cdv A outer s H E C tk => xs_cons (xs_set (i := 3) sc_least_with.nd (xf_of (xe_fz (xf_callF C h_spread (by decide) f_spread_len (xa_cons (xe_var 1) (xa_cons (xe_var 2) xa_nil))))))
  (xs_cons (xs_if (xt_not (xt_val (xe_callS C h_peaceful (by decide) f_peaceful_len (xab_cons (xb_var 3) xab_nil))))
  (xs_one (xs_ret (xf_of (xe_non))))
  (xs_nil))
  (xs_cons (xs_forR2 C Bl.range (xa_cons (xe_int) (xa_cons (xe_op op_addX r_add (xb_var 0) (xb_of (xe_int))) xa_nil)) (pg_name (i := 4) sc_least_with.nd rfl (by first | exact .inl rfl | exact .inr rfl)) tg_name nx_name
  (xs_one (xs_if (xt_w (xw_and (xt_cmp (op_niX (hu65 C.room)) r_ni (xb_var 4) (xb_var 3) (by rfl)) (xw_and1 (xt_cmp (op_niX (hu65 C.room)) r_ni (xb_of (xe_neg (xb_var 4))) (xb_var 3) (by rfl)))))
  (xs_cons (xs_set (i := 5) sc_least_with.nd (xf_of (xe_fz (xf_callF C h_spread (by decide) f_spread_len (xa_cons (xe_var 1) (xa_cons (xe_fz (xf_op op_cat r_cat (xb_var 3) (xb_of (xe_fz (xf_lst (xa_cons (xe_neg (xb_var 4)) xa_nil)))))) xa_nil))))))
  (xs_cons (xs_if (xt_not (xt_val (xe_callS C h_peaceful (by decide) f_peaceful_len (xab_cons (xb_var 5) xab_nil))))
  (xs_cons (xs_set (i := 5) sc_least_with.nd (xf_of (xe_fz (xf_callF C h_spread (by decide) f_spread_len (xa_cons (xe_var 1) (xa_cons (xe_fz (xf_op op_cat r_cat (xb_var 3) (xb_of (xe_fz (xf_lst (xa_cons (xe_var 4) xa_nil)))))) xa_nil))))))
  (xs_one (xs_if (xt_not (xt_val (xe_callS C h_peaceful (by decide) f_peaceful_len (xab_cons (xb_var 5) xab_nil))))
  (xs_one (xs_ret (xf_of (xe_non))))
  (xs_nil))))
  (xs_nil))
  (xs_one (xs_set (i := 3) sc_least_with.nd (xf_of (xe_var 5))))))
  (xs_nil))) argsE2)
  (xs_one (xs_ret (xf_lcR C.calm sc_least_with.nd Bl.range (xa_cons (xe_int) (xa_cons (xe_op op_addX r_add (xb_var 0) (xb_of (xe_int))) xa_nil)) argsE2 (blkOk_by (own := [("k", 4)]) (N := N_least_with) (sc := defScope s_least_with) (by decide +kernel)) (fun s H c cl fp => pg_name (i := 4) sc_least_with.nd rfl (.inl rfl)) (fun s H c cl fp => pts_yes) (fun s H c cl fp => xe_cmp (op_inX (hu65 (C.blk s H _ _ fp).room)) r_in (xb_var 4) (xb_var 3) (by rfl))))))))
abbrev s_least : Stmt := topS 15
abbrev N_least : List Str := ["many", "pile"]
theorem sc_least : FnScope N_least ["many", "pile"] (defScope s_least) := ⟨rfl, rfl, rfl, by decide +kernel, rfl, by decide +kernel, by decide +kernel⟩
theorem b_least : ∀ (kV doc pm : Value) (an : Option Addr) (cdv ct : Value) (us : List Value), us.length = (["many", "pile"] : List Str).length → bindArgs (PySem.W.fnOf "least" "least" (defArgs s_least) (defBody s_least) (defScope s_least) .none kV doc pm an cdv ct) ⟨us, []⟩ = pure ((["many", "pile"] : List Str).zip us) := fun _ _ _ _ _ _ us hl => match us, hl with | [_, _], _ => rfl
theorem k_least (Hs : Has K mg "least" s_least ["many", "pile"]) (Bl : Blt mg) (h_least_with : Fct P w K mg base "least_with" ["many", "pile", "wishes"] 3 f_least_with) : Fct P w K mg base "least" ["many", "pile"] 4 f_least :=
  fct_ok (g := g_least) rfl rfl rfl Hs sc_least (fun fa cdv A outer s H E C tk => xs_one (xs_ret (xf_callF C h_least_with (by decide) f_least_with_len (xa_cons (xe_var 0) (xa_cons (xe_var 1) (xa_cons (xe_fz (xf_lst (xa_nil))) xa_nil))))))
abbrev s_why : Stmt := topS 17
abbrev N_why : List Str := ["many", "pile", "say", "ring", "first", "second", "start", "goal", "way"]
theorem sc_why : FnScope N_why ["many", "pile", "say"] (defScope s_why) := ⟨rfl, rfl, rfl, by decide +kernel, rfl, by decide +kernel, by decide +kernel⟩
theorem b_why : ∀ (kV doc pm : Value) (an : Option Addr) (cdv ct : Value) (us : List Value), us.length = (["many", "pile", "say"] : List Str).length → bindArgs (PySem.W.fnOf "why" "why" (defArgs s_why) (defBody s_why) (defScope s_why) .none kV doc pm an cdv ct) ⟨us, []⟩ = pure ((["many", "pile", "say"] : List Str).zip us) := fun _ _ _ _ _ _ us hl => match us, hl with | [_, _, _], _ => rfl
theorem k_why (Hs : Has K mg "why" s_why ["many", "pile", "say"]) (Bl : Blt mg) (h_clash : Fct P w K mg base "clash" ["many", "pile"] 3 f_clash) (h_road : Fct P w K mg base "road" ["pile", "start", "goal"] 2 f_road) : Fct P w K mg base "why" ["many", "pile", "say"] 4 f_why :=
  fct_ok (g := g_why) rfl rfl rfl Hs sc_why (fun fa cdv A outer s H E C tk => xs_cons (xs_set (i := 3) sc_why.nd (xf_of (xe_fz (xf_callF C h_clash (by decide) f_clash_len (xa_cons (xe_var 0) (xa_cons (xe_var 1) xa_nil))))))
  (xs_cons (xs_if (xt_cmp op_notN r_notN (xb_var 3) (xb_of (xe_non)) (nomark _))
  (xs_one (xs_ret (xf_of (xe_tup (xa_cons (xe_str) (xa_cons (xe_var 3) xa_nil))))))
  (xs_nil))
  (xs_cons (xs_set (i := 4) sc_why.nd (xf_of (xe_ix (xb_var 2) (xb_of (xe_int)))))
  (xs_cons (xs_set (i := 5) sc_why.nd (xf_of (xe_ix (xb_var 2) (xb_of (xe_int)))))
  (xs_cons (xs_forL C (xe_fz (xf_lst (xa_cons (xe_tup (xa_cons (xe_neg (xb_var 4)) (xa_cons (xe_var 5) xa_nil))) (xa_cons (xe_tup (xa_cons (xe_neg (xb_var 4)) (xa_cons (xe_var 4) xa_nil))) (xa_cons (xe_tup (xa_cons (xe_neg (xb_var 5)) (xa_cons (xe_var 5) xa_nil))) xa_nil))))) (pg_tup rfl (pgs_cons (pg_name (i := 6) sc_why.nd rfl (by first | exact .inl rfl | exact .inr rfl)) (pgs_cons (pg_name (i := 7) sc_why.nd rfl (by first | exact .inl rfl | exact .inr rfl)) pgs_nil))) tg_tup nx_tup
  (xs_cons (xs_set (i := 8) sc_why.nd (xf_of (xe_fz (xf_callF C h_road (by decide) f_road_len (xa_cons (xe_var 1) (xa_cons (xe_var 6) (xa_cons (xe_var 7) xa_nil)))))))
  (xs_one (xs_if (xt_cmp op_notN r_notN (xb_var 8) (xb_of (xe_non)) (nomark _))
  (xs_one (xs_ret (xf_of (xe_tup (xa_cons (xe_str) (xa_cons (xe_var 8) xa_nil))))))
  (xs_nil)))))
  (xs_one (xs_ret (xf_of (xe_non)))))))))
abbrev s_against : Stmt := topS 18
abbrev N_against : List Str := ["many", "pile", "say"]
theorem sc_against : FnScope N_against ["many", "pile", "say"] (defScope s_against) := ⟨rfl, rfl, rfl, by decide +kernel, rfl, by decide +kernel, by decide +kernel⟩
theorem b_against : ∀ (kV doc pm : Value) (an : Option Addr) (cdv ct : Value) (us : List Value), us.length = (["many", "pile", "say"] : List Str).length → bindArgs (PySem.W.fnOf "against" "against" (defArgs s_against) (defBody s_against) (defScope s_against) .none kV doc pm an cdv ct) ⟨us, []⟩ = pure ((["many", "pile", "say"] : List Str).zip us) := fun _ _ _ _ _ _ us hl => match us, hl with | [_, _, _], _ => rfl
theorem k_against (Hs : Has K mg "against" s_against ["many", "pile", "say"]) (Bl : Blt mg) (h_least_with : Fct P w K mg base "least_with" ["many", "pile", "wishes"] 3 f_least_with) : Fct P w K mg base "against" ["many", "pile", "say"] 4 f_against :=
  fct_ok (g := g_against) rfl rfl rfl Hs sc_against (fun fa cdv A outer s H E C tk => xs_one (xs_ret (xf_callF C h_least_with (by decide) f_least_with_len (xa_cons (xe_var 0) (xa_cons (xe_var 1) (xa_cons (xe_fz (xf_lst (xa_cons (xe_neg (xb_of (xe_ix (xb_var 2) (xb_of (xe_int))))) (xa_cons (xe_neg (xb_of (xe_ix (xb_var 2) (xb_of (xe_int))))) xa_nil)))) xa_nil))))))
abbrev s_m___init__ : Stmt := inClass (topS 21) 0
abbrev N_m___init__ : List Str := ["self", "many"]
theorem sc_m___init__ : FnScope N_m___init__ ["self", "many"] (defScope s_m___init__) := ⟨rfl, rfl, rfl, by decide +kernel, rfl, by decide +kernel, by decide +kernel⟩
theorem b_m___init__ : ∀ (kV doc pm : Value) (an : Option Addr) (cdv ct : Value) (us : List Value), us.length = (["self", "many"] : List Str).length → bindArgs (PySem.W.fnOf "__init__" "Book.__init__" (defArgs s_m___init__) (defBody s_m___init__) (defScope s_m___init__) .none kV doc pm an cdv ct) ⟨us, []⟩ = pure ((["self", "many"] : List Str).zip us) := fun _ _ _ _ _ _ us hl => match us, hl with | [_, _], _ => rfl
abbrev s_m_add : Stmt := inClass (topS 21) 1
abbrev N_m_add : List Str := ["self", "say", "lit"]
theorem sc_m_add : FnScope N_m_add ["self", "say"] (defScope s_m_add) := ⟨rfl, rfl, rfl, by decide +kernel, rfl, by decide +kernel, by decide +kernel⟩
theorem b_m_add : ∀ (kV doc pm : Value) (an : Option Addr) (cdv ct : Value) (us : List Value), us.length = (["self", "say"] : List Str).length → bindArgs (PySem.W.fnOf "add" "Book.add" (defArgs s_m_add) (defBody s_m_add) (defScope s_m_add) .none kV doc pm an cdv ct) ⟨us, []⟩ = pure ((["self", "say"] : List Str).zip us) := fun _ _ _ _ _ _ us hl => match us, hl with | [_, _], _ => rfl
theorem k_m_add (Hs : HasM K "add" "Book.add" s_m_add ["self", "say"]) (Bl : Blt mg) (Tb : BkTxt K)  {t_ROOM : Tok} (c_ROOM : mg "ROOM" = some (.int 400 t_ROOM)) (e_BadSay : ExcAt K mg "BadSay") (e_FullBook : ExcAt K mg "FullBook") : FctM P w K mg base "add" ["self", "say"] 1 f_m_add :=
  fctM_ok (g := g_m_add) rfl rfl rfl Hs sc_m_add (fun fa cdv A outer s H E C tk => xs_cons (xs_forT C (xe_var 1) (pg_name (i := 2) sc_m_add.nd rfl (by first | exact .inl rfl | exact .inr rfl)) tg_name nx_name
  (xs_one (xs_if (xt_w (xw_or (xt_cmp (op_eqD C.room.units) r_eq (xb_var 2) (xb_of (xe_int)) (nomark _)) (xw_or1 (xt_cmp op_gt r_cmp (xb_of (xe_B call_abs r_abs (by rfl) Bl.abs (by decide +kernel) (xb_var 2))) (xb_of (xe_many Tb (xb_var 0))) (nomark _)))))
  (xs_one (xs_raiseE rfl tk e_BadSay))
  (xs_nil))))
  (xs_cons (xs_if (xt_cmp op_ge r_cmp (xb_of (xe_B call_len r_len (by rfl) Bl.len (by decide +kernel) (xb_of (xe_held Tb (xb_var 0))))) (xb_of (xe_globI (by rfl) c_ROOM)) (nomark _))
  (xs_one (xs_raiseE rfl tk e_FullBook))
  (xs_nil))
  (xss_bad)))
abbrev s_m_back : Stmt := inClass (topS 21) 2
abbrev N_m_back : List Str := ["self"]
theorem sc_m_back : FnScope N_m_back ["self"] (defScope s_m_back) := ⟨rfl, rfl, rfl, by decide +kernel, rfl, by decide +kernel, by decide +kernel⟩
theorem b_m_back : ∀ (kV doc pm : Value) (an : Option Addr) (cdv ct : Value) (us : List Value), us.length = (["self"] : List Str).length → bindArgs (PySem.W.fnOf "back" "Book.back" (defArgs s_m_back) (defBody s_m_back) (defScope s_m_back) .none kV doc pm an cdv ct) ⟨us, []⟩ = pure ((["self"] : List Str).zip us) := fun _ _ _ _ _ _ us hl => match us, hl with | [_], _ => rfl
theorem k_m_back (Hs : HasM K "back" "Book.back" s_m_back ["self"]) (Bl : Blt mg) (Tb : BkTxt K)  (e_EmptyBook : ExcAt K mg "EmptyBook") : FctM P w K mg base "back" ["self"] 1 f_m_back :=
  fctM_ok (g := g_m_back) rfl rfl rfl Hs sc_m_back (fun fa cdv A outer s H E C tk => xs_cons (xs_if (xt_cmp (op_eqD C.room.units) r_eq (xb_of (xe_B call_len r_len (by rfl) Bl.len (by decide +kernel) (xb_of (xe_held Tb (xb_var 0))))) (xb_of (xe_int)) (nomark _))
  (xs_one (xs_raiseE rfl tk e_EmptyBook))
  (xs_nil))
  (xss_bad))
abbrev s_m_says : Stmt := inClass (topS 21) 3
abbrev N_m_says : List Str := ["self"]
theorem sc_m_says : FnScope N_m_says ["self"] (defScope s_m_says) := ⟨rfl, rfl, rfl, by decide +kernel, rfl, by decide +kernel, by decide +kernel⟩
theorem b_m_says : ∀ (kV doc pm : Value) (an : Option Addr) (cdv ct : Value) (us : List Value), us.length = (["self"] : List Str).length → bindArgs (PySem.W.fnOf "says" "Book.says" (defArgs s_m_says) (defBody s_m_says) (defScope s_m_says) .none kV doc pm an cdv ct) ⟨us, []⟩ = pure ((["self"] : List Str).zip us) := fun _ _ _ _ _ _ us hl => match us, hl with | [_], _ => rfl
theorem k_m_says (Hs : HasM K "says" "Book.says" s_m_says ["self"]) (Bl : Blt mg) (Tb : BkTxt K)  : FctM P w K mg base "says" ["self"] 1 f_m_says :=
  fctM_ok (g := g_m_says) rfl rfl rfl Hs sc_m_says (fun fa cdv A outer s H E C tk => xs_one (xs_ret (xf_Ty call_list_of r_list (by rfl) Bl.list (by decide +kernel) (xb_of (xe_held Tb (xb_var 0))))))
abbrev s_m_setting : Stmt := inClass (topS 21) 4
abbrev N_m_setting : List Str := ["self"]
theorem sc_m_setting : FnScope N_m_setting ["self"] (defScope s_m_setting) := ⟨rfl, rfl, rfl, by decide +kernel, rfl, by decide +kernel, by decide +kernel⟩
theorem b_m_setting : ∀ (kV doc pm : Value) (an : Option Addr) (cdv ct : Value) (us : List Value), us.length = (["self"] : List Str).length → bindArgs (PySem.W.fnOf "setting" "Book.setting" (defArgs s_m_setting) (defBody s_m_setting) (defScope s_m_setting) .none kV doc pm an cdv ct) ⟨us, []⟩ = pure ((["self"] : List Str).zip us) := fun _ _ _ _ _ _ us hl => match us, hl with | [_], _ => rfl
theorem k_m_setting (Hs : HasM K "setting" "Book.setting" s_m_setting ["self"]) (Bl : Blt mg) (Tb : BkTxt K) (h_least : Fct P w K mg base "least" ["many", "pile"] 4 f_least) : FctM P w K mg base "setting" ["self"] 5 f_m_setting :=
  fctM_ok (g := g_m_setting) rfl rfl rfl Hs sc_m_setting (fun fa cdv A outer s H E C tk => xs_one (xs_ret (xf_callF C h_least (by decide) f_least_len (xa_cons (xe_many Tb (xb_var 0)) (xa_cons (xe_held Tb (xb_var 0)) xa_nil)))))
abbrev s_m_ring : Stmt := inClass (topS 21) 5
abbrev N_m_ring : List Str := ["self"]
theorem sc_m_ring : FnScope N_m_ring ["self"] (defScope s_m_ring) := ⟨rfl, rfl, rfl, by decide +kernel, rfl, by decide +kernel, by decide +kernel⟩
theorem b_m_ring : ∀ (kV doc pm : Value) (an : Option Addr) (cdv ct : Value) (us : List Value), us.length = (["self"] : List Str).length → bindArgs (PySem.W.fnOf "ring" "Book.ring" (defArgs s_m_ring) (defBody s_m_ring) (defScope s_m_ring) .none kV doc pm an cdv ct) ⟨us, []⟩ = pure ((["self"] : List Str).zip us) := fun _ _ _ _ _ _ us hl => match us, hl with | [_], _ => rfl
theorem k_m_ring (Hs : HasM K "ring" "Book.ring" s_m_ring ["self"]) (Bl : Blt mg) (Tb : BkTxt K) (h_clash : Fct P w K mg base "clash" ["many", "pile"] 3 f_clash) : FctM P w K mg base "ring" ["self"] 4 f_m_ring :=
  fctM_ok (g := g_m_ring) rfl rfl rfl Hs sc_m_ring (fun fa cdv A outer s H E C tk => xs_one (xs_ret (xf_callF C h_clash (by decide) f_clash_len (xa_cons (xe_many Tb (xb_var 0)) (xa_cons (xe_held Tb (xb_var 0)) xa_nil)))))
abbrev s_m_ask : Stmt := inClass (topS 21) 6
abbrev N_m_ask : List Str := ["self", "say", "shows"]
theorem sc_m_ask : FnScope N_m_ask ["self", "say"] (defScope s_m_ask) := ⟨rfl, rfl, rfl, by decide +kernel, rfl, by decide +kernel, by decide +kernel⟩
theorem b_m_ask : ∀ (kV doc pm : Value) (an : Option Addr) (cdv ct : Value) (us : List Value), us.length = (["self", "say"] : List Str).length → bindArgs (PySem.W.fnOf "ask" "Book.ask" (defArgs s_m_ask) (defBody s_m_ask) (defScope s_m_ask) .none kV doc pm an cdv ct) ⟨us, []⟩ = pure ((["self", "say"] : List Str).zip us) := fun _ _ _ _ _ _ us hl => match us, hl with | [_, _], _ => rfl
theorem k_m_ask (Hs : HasM K "ask" "Book.ask" s_m_ask ["self", "say"]) (Bl : Blt mg) (Tb : BkTxt K) (h_why : Fct P w K mg base "why" ["many", "pile", "say"] 4 f_why) (h_against : Fct P w K mg base "against" ["many", "pile", "say"] 4 f_against) : FctM P w K mg base "ask" ["self", "say"] 5 f_m_ask :=
  fctM_ok (g := g_m_ask) rfl rfl rfl Hs sc_m_ask (fun fa cdv A outer s H E C tk => xs_cons (xs_set (i := 2) sc_m_ask.nd (xf_of (xe_fz (xf_callF C h_why (by decide) f_why_len (xa_cons (xe_many Tb (xb_var 0)) (xa_cons (xe_held Tb (xb_var 0)) (xa_cons (xe_var 1) xa_nil)))))))
  (xs_cons (xs_if (xt_cmp op_notN r_notN (xb_var 2) (xb_of (xe_non)) (nomark _))
  (xs_one (xs_retV 2))
  (xs_nil))
  (xs_one (xs_ret (xf_of (xe_tup (xa_cons (xe_str) (xa_cons (xe_fz (xf_callF C h_against (by decide) f_against_len (xa_cons (xe_many Tb (xb_var 0)) (xa_cons (xe_held Tb (xb_var 0)) (xa_cons (xe_var 1) xa_nil))))) xa_nil))))))))
abbrev s__law_cell_at : Stmt := topS 23
abbrev N__law_cell_at : List Str := ["script", "k"]
theorem sc__law_cell_at : FnScope N__law_cell_at ["script", "k"] (defScope s__law_cell_at) := ⟨rfl, rfl, rfl, by decide +kernel, rfl, by decide +kernel, by decide +kernel⟩
theorem b__law_cell_at : ∀ (kV doc pm : Value) (an : Option Addr) (cdv ct : Value) (us : List Value), us.length = (["script", "k"] : List Str).length → bindArgs (PySem.W.fnOf "_law_cell_at" "_law_cell_at" (defArgs s__law_cell_at) (defBody s__law_cell_at) (defScope s__law_cell_at) .none kV doc pm an cdv ct) ⟨us, []⟩ = pure ((["script", "k"] : List Str).zip us) := fun _ _ _ _ _ _ us hl => match us, hl with | [_, _], _ => rfl
theorem k__law_cell_at (Hs : Has K mg "_law_cell_at" s__law_cell_at ["script", "k"]) (Bl : Blt mg)  : Fct P w K mg base "_law_cell_at" ["script", "k"] 1 f__law_cell_at :=
  fct_ok (g := g__law_cell_at) rfl rfl rfl Hs sc__law_cell_at (fun fa cdv A outer s H E C tk => xs_cons (xs_if (xt_cmp op_lt r_cmp (xb_var 1) (xb_of (xe_B call_len r_len (by rfl) Bl.len (by decide +kernel) (xb_var 0))) (nomark _))
  (xs_one (xs_ret (xf_of (xe_ix (xb_var 0) (xb_var 1)))))
  (xs_nil))
  (xs_one (xs_ret (xf_of (xe_int)))))
abbrev s__law_lit_by : Stmt := topS 24
abbrev N__law_lit_by : List Str := ["index"]
theorem sc__law_lit_by : FnScope N__law_lit_by ["index"] (defScope s__law_lit_by) := ⟨rfl, rfl, rfl, by decide +kernel, rfl, by decide +kernel, by decide +kernel⟩
theorem b__law_lit_by : ∀ (kV doc pm : Value) (an : Option Addr) (cdv ct : Value) (us : List Value), us.length = (["index"] : List Str).length → bindArgs (PySem.W.fnOf "_law_lit_by" "_law_lit_by" (defArgs s__law_lit_by) (defBody s__law_lit_by) (defScope s__law_lit_by) .none kV doc pm an cdv ct) ⟨us, []⟩ = pure ((["index"] : List Str).zip us) := fun _ _ _ _ _ _ us hl => match us, hl with | [_], _ => rfl
theorem k__law_lit_by (Hs : Has K mg "_law_lit_by" s__law_lit_by ["index"]) (Bl : Blt mg)  : Fct P w K mg base "_law_lit_by" ["index"] 1 f__law_lit_by :=
  fct_ok (g := g__law_lit_by) rfl rfl rfl Hs sc__law_lit_by (fun fa cdv A outer s H E C tk => xs_cons (xs_if (xt_cmp (op_eqD C.room.units) r_eq (xb_of (xe_op op_mod r_mod (xb_var 0) (xb_of (xe_int)))) (xb_of (xe_int)) (nomark _))
  (xs_one (xs_ret (xf_of (xe_neg (xb_of (xe_op op_addX r_add (xb_of (xe_op op_fdiv r_div (xb_var 0) (xb_of (xe_int)))) (xb_of (xe_int))))))))
  (xs_nil))
  (xs_one (xs_ret (xf_of (xe_op op_addX r_add (xb_of (xe_op op_fdiv r_div (xb_var 0) (xb_of (xe_int)))) (xb_of (xe_int)))))))
abbrev s__law_whole : Stmt := topS 25
abbrev N__law_whole : List Str := ["found"]
theorem sc__law_whole : FnScope N__law_whole ["found"] (defScope s__law_whole) := ⟨rfl, rfl, rfl, by decide +kernel, rfl, by decide +kernel, by decide +kernel⟩
theorem b__law_whole : ∀ (kV doc pm : Value) (an : Option Addr) (cdv ct : Value) (us : List Value), us.length = (["found"] : List Str).length → bindArgs (PySem.W.fnOf "_law_whole" "_law_whole" (defArgs s__law_whole) (defBody s__law_whole) (defScope s__law_whole) .none kV doc pm an cdv ct) ⟨us, []⟩ = pure ((["found"] : List Str).zip us) := fun _ _ _ _ _ _ us hl => match us, hl with | [_], _ => rfl
theorem k__law_whole (Hs : Has K mg "_law_whole" s__law_whole ["found"]) (Bl : Blt mg)  : Fct P w K mg base "_law_whole" ["found"] 1 f__law_whole :=
  fct_ok (g := g__law_whole) rfl rfl rfl Hs sc__law_whole (fun fa cdv A outer s H E C tk => xs_one (xs_ret (xf_of (xe_and (xe_isi (T := "int") (by rfl) Bl.isinstance (by decide +kernel) (by rfl) Bl.int (by decide +kernel) (xb_var 0)) (xe_one (xe_not (xe_isi (T := "bool") (by rfl) Bl.isinstance (by decide +kernel) (by rfl) Bl.bool (by decide +kernel) (xb_var 0))))))))
abbrev s__law_true : Stmt := topS 26
abbrev N__law_true : List Str := ["say", "bits", "lit"]
theorem sc__law_true : FnScope N__law_true ["say", "bits"] (defScope s__law_true) := ⟨rfl, rfl, rfl, by decide +kernel, rfl, by decide +kernel, by decide +kernel⟩
theorem b__law_true : ∀ (kV doc pm : Value) (an : Option Addr) (cdv ct : Value) (us : List Value), us.length = (["say", "bits"] : List Str).length → bindArgs (PySem.W.fnOf "_law_true" "_law_true" (defArgs s__law_true) (defBody s__law_true) (defScope s__law_true) .none kV doc pm an cdv ct) ⟨us, []⟩ = pure ((["say", "bits"] : List Str).zip us) := fun _ _ _ _ _ _ us hl => match us, hl with | [_, _], _ => rfl
theorem k__law_true (Hs : Has K mg "_law_true" s__law_true ["say", "bits"]) (Bl : Blt mg)  : Fct P w K mg base "_law_true" ["say", "bits"] 1 f__law_true :=
  fct_ok (g := g__law_true) rfl rfl rfl Hs sc__law_true (fun fa cdv A outer s H E C tk => xs_cons (xs_forT C (xe_var 0) (pg_name (i := 2) sc__law_true.nd rfl (by first | exact .inl rfl | exact .inr rfl)) tg_name nx_name
  (xs_one (xs_if (xt_cmp (op_eqD C.room.units) r_eq (xb_of (xe_ix (xb_var 1) (xb_of (xe_op op_sub r_sub (xb_of (xe_B call_abs r_abs (by rfl) Bl.abs (by decide +kernel) (xb_var 2))) (xb_of (xe_int)))))) (xb_of (xe_cmp op_gt r_cmp (xb_var 2) (xb_of (xe_int)) (nomark _))) (nomark _))
  (xs_one (xs_ret (xf_of (xe_bl))))
  (xs_nil))))
  (xs_one (xs_ret (xf_of (xe_bl)))))
abbrev s__law_all_true : Stmt := topS 27
abbrev N__law_all_true : List Str := ["pile", "bits", "say"]
theorem sc__law_all_true : FnScope N__law_all_true ["pile", "bits"] (defScope s__law_all_true) := ⟨rfl, rfl, rfl, by decide +kernel, rfl, by decide +kernel, by decide +kernel⟩
theorem b__law_all_true : ∀ (kV doc pm : Value) (an : Option Addr) (cdv ct : Value) (us : List Value), us.length = (["pile", "bits"] : List Str).length → bindArgs (PySem.W.fnOf "_law_all_true" "_law_all_true" (defArgs s__law_all_true) (defBody s__law_all_true) (defScope s__law_all_true) .none kV doc pm an cdv ct) ⟨us, []⟩ = pure ((["pile", "bits"] : List Str).zip us) := fun _ _ _ _ _ _ us hl => match us, hl with | [_, _], _ => rfl
theorem k__law_all_true (Hs : Has K mg "_law_all_true" s__law_all_true ["pile", "bits"]) (Bl : Blt mg) (h__law_true : Fct P w K mg base "_law_true" ["say", "bits"] 1 f__law_true) : Fct P w K mg base "_law_all_true" ["pile", "bits"] 2 f__law_all_true :=
  fct_ok (g := g__law_all_true) rfl rfl rfl Hs sc__law_all_true (fun fa cdv A outer s H E C tk => xs_cons (xs_forL C (xe_var 0) (pg_name (i := 2) sc__law_all_true.nd rfl (by first | exact .inl rfl | exact .inr rfl)) tg_name nx_name
  (xs_one (xs_if (xt_not (xt_val (xe_callS C h__law_true (by decide) f__law_true_len (xab_cons (xb_var 2) (xab_cons (xb_var 1) xab_nil)))))
  (xs_one (xs_ret (xf_of (xe_bl))))
  (xs_nil))))
  (xs_one (xs_ret (xf_of (xe_bl)))))
abbrev s__law_is_setting : Stmt := topS 28
abbrev N__law_is_setting : List Str := ["found", "many", "value"]
theorem sc__law_is_setting : FnScope N__law_is_setting ["found", "many"] (defScope s__law_is_setting) := ⟨rfl, rfl, rfl, by decide +kernel, rfl, by decide +kernel, by decide +kernel⟩
theorem b__law_is_setting : ∀ (kV doc pm : Value) (an : Option Addr) (cdv ct : Value) (us : List Value), us.length = (["found", "many"] : List Str).length → bindArgs (PySem.W.fnOf "_law_is_setting" "_law_is_setting" (defArgs s__law_is_setting) (defBody s__law_is_setting) (defScope s__law_is_setting) .none kV doc pm an cdv ct) ⟨us, []⟩ = pure ((["found", "many"] : List Str).zip us) := fun _ _ _ _ _ _ us hl => match us, hl with | [_, _], _ => rfl
theorem k__law_is_setting (Hs : Has K mg "_law_is_setting" s__law_is_setting ["found", "many"]) (Bl : Blt mg)  : Fct P w K mg base "_law_is_setting" ["found", "many"] 1 f__law_is_setting :=
  fct_ok (g := g__law_is_setting) rfl rfl rfl Hs sc__law_is_setting (fun fa cdv A outer s H E C tk => xs_cons (xs_if (xt_w (xw_or (xt_not (xt_val (xe_isi (T := "list") (by rfl) Bl.isinstance (by decide +kernel) (by rfl) Bl.list (by decide +kernel) (xb_var 0)))) (xw_or1 (xt_cmp (op_neD C.room.units) r_ne (xb_of (xe_B call_len r_len (by rfl) Bl.len (by decide +kernel) (xb_var 0))) (xb_var 1) (nomark _)))))
  (xs_one (xs_ret (xf_of (xe_bl))))
  (xs_nil))
  (xs_cons (xs_forL C (xe_var 0) (pg_name (i := 2) sc__law_is_setting.nd rfl (by first | exact .inl rfl | exact .inr rfl)) tg_name nx_name
  (xs_one (xs_if (xt_not (xt_val (xe_isi (T := "bool") (by rfl) Bl.isinstance (by decide +kernel) (by rfl) Bl.bool (by decide +kernel) (xb_var 2))))
  (xs_one (xs_ret (xf_of (xe_bl))))
  (xs_nil))))
  (xs_one (xs_ret (xf_of (xe_bl))))))
abbrev s__law_step : Stmt := topS 29
abbrev N__law_step : List Str := ["pile", "here", "there", "say"]
theorem sc__law_step : FnScope N__law_step ["pile", "here", "there"] (defScope s__law_step) := ⟨rfl, rfl, rfl, by decide +kernel, rfl, by decide +kernel, by decide +kernel⟩
theorem b__law_step : ∀ (kV doc pm : Value) (an : Option Addr) (cdv ct : Value) (us : List Value), us.length = (["pile", "here", "there"] : List Str).length → bindArgs (PySem.W.fnOf "_law_step" "_law_step" (defArgs s__law_step) (defBody s__law_step) (defScope s__law_step) .none kV doc pm an cdv ct) ⟨us, []⟩ = pure ((["pile", "here", "there"] : List Str).zip us) := fun _ _ _ _ _ _ us hl => match us, hl with | [_, _, _], _ => rfl
theorem k__law_step (Hs : Has K mg "_law_step" s__law_step ["pile", "here", "there"]) (Bl : Blt mg)  : Fct P w K mg base "_law_step" ["pile", "here", "there"] 1 f__law_step :=
  fct_ok (g := g__law_step) rfl rfl rfl Hs sc__law_step (fun fa cdv A outer s H E C tk => xs_cons (xs_forL C (xe_var 0) (pg_name (i := 3) sc__law_step.nd rfl (by first | exact .inl rfl | exact .inr rfl)) tg_name nx_name
  (xs_one (xs_if (xt_w (xw_or (xt_cmp (op_eqD C.room.units) r_eq (xb_var 3) (xb_of (xe_tup (xa_cons (xe_neg (xb_var 1)) (xa_cons (xe_var 2) xa_nil)))) (nomark _)) (xw_or1 (xt_cmp (op_eqD C.room.units) r_eq (xb_var 3) (xb_of (xe_tup (xa_cons (xe_var 2) (xa_cons (xe_neg (xb_var 1)) xa_nil)))) (nomark _)))))
  (xs_one (xs_ret (xf_of (xe_bl))))
  (xs_nil))))
  (xs_one (xs_ret (xf_of (xe_bl)))))
abbrev s__law_is_road : Stmt := topS 30
abbrev N__law_is_road : List Str := ["pile", "found", "lit", "k"]
theorem sc__law_is_road : FnScope N__law_is_road ["pile", "found"] (defScope s__law_is_road) := ⟨rfl, rfl, rfl, by decide +kernel, rfl, by decide +kernel, by decide +kernel⟩
theorem b__law_is_road : ∀ (kV doc pm : Value) (an : Option Addr) (cdv ct : Value) (us : List Value), us.length = (["pile", "found"] : List Str).length → bindArgs (PySem.W.fnOf "_law_is_road" "_law_is_road" (defArgs s__law_is_road) (defBody s__law_is_road) (defScope s__law_is_road) .none kV doc pm an cdv ct) ⟨us, []⟩ = pure ((["pile", "found"] : List Str).zip us) := fun _ _ _ _ _ _ us hl => match us, hl with | [_, _], _ => rfl
theorem k__law_is_road (Hs : Has K mg "_law_is_road" s__law_is_road ["pile", "found"]) (Bl : Blt mg) (h__law_step : Fct P w K mg base "_law_step" ["pile", "here", "there"] 1 f__law_step) (h__law_whole : Fct P w K mg base "_law_whole" ["found"] 1 f__law_whole) : Fct P w K mg base "_law_is_road" ["pile", "found"] 2 f__law_is_road :=
  fct_ok (g := g__law_is_road) rfl rfl rfl Hs sc__law_is_road (fun fa cdv A outer s H E C tk => xs_cons (xs_if (xt_w (xw_or (xt_not (xt_val (xe_isi (T := "list") (by rfl) Bl.isinstance (by decide +kernel) (by rfl) Bl.list (by decide +kernel) (xb_var 1)))) (xw_or1 (xt_cmp (op_eqD C.room.units) r_eq (xb_of (xe_B call_len r_len (by rfl) Bl.len (by decide +kernel) (xb_var 1))) (xb_of (xe_int)) (nomark _)))))
  (xs_one (xs_ret (xf_of (xe_bl))))
  (xs_nil))
  (xs_cons (xs_forL C (xe_var 1) (pg_name (i := 2) sc__law_is_road.nd rfl (by first | exact .inl rfl | exact .inr rfl)) tg_name nx_name
  (xs_one (xs_if (xt_w (xw_or (xt_not (xt_val (xe_callS C h__law_whole (by decide) f__law_whole_len (xab_cons (xb_var 2) xab_nil)))) (xw_or1 (xt_cmp (op_eqD C.room.units) r_eq (xb_var 2) (xb_of (xe_int)) (nomark _)))))
  (xs_one (xs_ret (xf_of (xe_bl))))
  (xs_nil))))
  (xs_cons (xs_forR1 C Bl.range (xa_cons (xe_op op_sub r_sub (xb_of (xe_B call_len r_len (by rfl) Bl.len (by decide +kernel) (xb_var 1))) (xb_of (xe_int))) xa_nil) (pg_name (i := 3) sc__law_is_road.nd rfl (by first | exact .inl rfl | exact .inr rfl)) tg_name nx_name
  (xs_one (xs_if (xt_not (xt_val (xe_callS C h__law_step (by decide) f__law_step_len (xab_cons (xb_var 0) (xab_cons (xb_of (xe_ix (xb_var 1) (xb_var 3))) (xab_cons (xb_of (xe_ix (xb_var 1) (xb_of (xe_op op_addX r_add (xb_var 3) (xb_of (xe_int)))))) xab_nil))))))
  (xs_one (xs_ret (xf_of (xe_bl))))
  (xs_nil))) argsE1)
  (xs_one (xs_ret (xf_of (xe_bl)))))))
abbrev s__law_is_ring : Stmt := topS 31
abbrev N__law_is_ring : List Str := ["pile", "found", "lit"]
theorem sc__law_is_ring : FnScope N__law_is_ring ["pile", "found"] (defScope s__law_is_ring) := ⟨rfl, rfl, rfl, by decide +kernel, rfl, by decide +kernel, by decide +kernel⟩
theorem b__law_is_ring : ∀ (kV doc pm : Value) (an : Option Addr) (cdv ct : Value) (us : List Value), us.length = (["pile", "found"] : List Str).length → bindArgs (PySem.W.fnOf "_law_is_ring" "_law_is_ring" (defArgs s__law_is_ring) (defBody s__law_is_ring) (defScope s__law_is_ring) .none kV doc pm an cdv ct) ⟨us, []⟩ = pure ((["pile", "found"] : List Str).zip us) := fun _ _ _ _ _ _ us hl => match us, hl with | [_, _], _ => rfl
theorem k__law_is_ring (Hs : Has K mg "_law_is_ring" s__law_is_ring ["pile", "found"]) (Bl : Blt mg) (h__law_is_road : Fct P w K mg base "_law_is_road" ["pile", "found"] 2 f__law_is_road) : Fct P w K mg base "_law_is_ring" ["pile", "found"] 3 f__law_is_ring :=
  fct_ok (g := g__law_is_ring) rfl rfl rfl Hs sc__law_is_ring (fun fa cdv A outer s H E C tk => xs_cons (xs_if (xt_w (xw_or (xt_not (xt_val (xe_callS C h__law_is_road (by decide) f__law_is_road_len (xab_cons (xb_var 0) (xab_cons (xb_var 1) xab_nil))))) (xw_or1 (xt_cmp (op_neD C.room.units) r_ne (xb_of (xe_ix (xb_var 1) (xb_of (xe_int)))) (xb_of (xe_ix (xb_var 1) (xb_of (xe_neg (xb_of (xe_int)))))) (nomark _)))))
  (xs_one (xs_ret (xf_of (xe_bl))))
  (xs_nil))
  (xs_cons (xs_forL C (xe_var 1) (pg_name (i := 2) sc__law_is_ring.nd rfl (by first | exact .inl rfl | exact .inr rfl)) tg_name nx_name
  (xs_one (xs_if (xt_cmp (op_inX (hu65 C.room)) r_in (xb_of (xe_neg (xb_var 2))) (xb_var 1) (by rfl))
  (xs_one (xs_ret (xf_of (xe_bl))))
  (xs_nil))))
  (xs_one (xs_ret (xf_of (xe_bl))))))
abbrev s__law_reach : Stmt := topS 32
abbrev N__law_reach : List Str := ["pile", "starts", "found", "at", "say"]
theorem sc__law_reach : FnScope N__law_reach ["pile", "starts"] (defScope s__law_reach) := ⟨rfl, rfl, rfl, by decide +kernel, rfl, by decide +kernel, by decide +kernel⟩
theorem b__law_reach : ∀ (kV doc pm : Value) (an : Option Addr) (cdv ct : Value) (us : List Value), us.length = (["pile", "starts"] : List Str).length → bindArgs (PySem.W.fnOf "_law_reach" "_law_reach" (defArgs s__law_reach) (defBody s__law_reach) (defScope s__law_reach) .none kV doc pm an cdv ct) ⟨us, []⟩ = pure ((["pile", "starts"] : List Str).zip us) := fun _ _ _ _ _ _ us hl => match us, hl with | [_, _], _ => rfl
theorem k__law_reach (Hs : Has K mg "_law_reach" s__law_reach ["pile", "starts"]) (Bl : Blt mg)  : Fct P w K mg base "_law_reach" ["pile", "starts"] 1 f__law_reach_k16 :=
  fct_ok (g := g__law_reach_k16) rfl rfl rfl Hs sc__law_reach (fun fa cdv A outer s H E C tk => xs_cons (xs_set (i := 2) sc__law_reach.nd (xf_Ty call_list_of r_list (by rfl) Bl.list (by decide +kernel) (xb_var 1)))
  (xs_cons (xs_set (i := 3) sc__law_reach.nd (xf_of (xe_int)))
  (xs_cons (xs_while C (xt_cmp op_lt r_cmp (xb_var 3) (xb_of (xe_B call_len r_len (by rfl) Bl.len (by decide +kernel) (xb_var 2))) (nomark _))
  (xs_cons (xs_forL C (xe_var 0) (pg_name (i := 4) sc__law_reach.nd rfl (by first | exact .inl rfl | exact .inr rfl)) tg_name nx_name
  (xs_cons (xs_if (xt_w (xw_and (xt_cmp (op_eqD C.room.units) r_eq (xb_of (xe_ix (xb_var 4) (xb_of (xe_int)))) (xb_of (xe_neg (xb_of (xe_ix (xb_var 2) (xb_var 3))))) (nomark _)) (xw_and1 (xt_cmp (op_niX (hu65 C.room)) r_ni (xb_of (xe_ix (xb_var 4) (xb_of (xe_int)))) (xb_var 2) (by rfl)))))
  (xs_one (xs_push 2 (xe_ix (xb_var 4) (xb_of (xe_int)))))
  (xs_nil))
  (xs_one (xs_if (xt_w (xw_and (xt_cmp (op_eqD C.room.units) r_eq (xb_of (xe_ix (xb_var 4) (xb_of (xe_int)))) (xb_of (xe_neg (xb_of (xe_ix (xb_var 2) (xb_var 3))))) (nomark _)) (xw_and1 (xt_cmp (op_niX (hu65 C.room)) r_ni (xb_of (xe_ix (xb_var 4) (xb_of (xe_int)))) (xb_var 2) (by rfl)))))
  (xs_one (xs_push 2 (xe_ix (xb_var 4) (xb_of (xe_int)))))
  (xs_nil)))))
  (xs_one (xs_set (i := 3) sc__law_reach.nd (xf_of (xe_op op_addX r_add (xb_var 3) (xb_of (xe_int))))))))
  (xs_one (xs_retV 2)))))
abbrev s__law_torn : Stmt := topS 33
abbrev N__law_torn : List Str := ["lits", "lit"]
theorem sc__law_torn : FnScope N__law_torn ["lits"] (defScope s__law_torn) := ⟨rfl, rfl, rfl, by decide +kernel, rfl, by decide +kernel, by decide +kernel⟩
theorem b__law_torn : ∀ (kV doc pm : Value) (an : Option Addr) (cdv ct : Value) (us : List Value), us.length = (["lits"] : List Str).length → bindArgs (PySem.W.fnOf "_law_torn" "_law_torn" (defArgs s__law_torn) (defBody s__law_torn) (defScope s__law_torn) .none kV doc pm an cdv ct) ⟨us, []⟩ = pure ((["lits"] : List Str).zip us) := fun _ _ _ _ _ _ us hl => match us, hl with | [_], _ => rfl
theorem k__law_torn (Hs : Has K mg "_law_torn" s__law_torn ["lits"]) (Bl : Blt mg)  : Fct P w K mg base "_law_torn" ["lits"] 1 f__law_torn_k16 :=
  fct_ok (g := g__law_torn_k16) rfl rfl rfl Hs sc__law_torn (fun fa cdv A outer s H E C tk => xs_cons (xs_forL C (xe_var 0) (pg_name (i := 1) sc__law_torn.nd rfl (by first | exact .inl rfl | exact .inr rfl)) tg_name nx_name
  (xs_one (xs_if (xt_cmp (op_inX (hu65 C.room)) r_in (xb_of (xe_neg (xb_var 1))) (xb_var 0) (by rfl))
  (xs_one (xs_ret (xf_of (xe_bl))))
  (xs_nil))))
  (xs_one (xs_ret (xf_of (xe_bl)))))
abbrev s__law_lits : Stmt := topS 34
abbrev N__law_lits : List Str := ["bits", "count", "k"]
theorem sc__law_lits : FnScope N__law_lits ["bits", "count"] (defScope s__law_lits) := ⟨rfl, rfl, rfl, by decide +kernel, rfl, by decide +kernel, by decide +kernel⟩
theorem b__law_lits : ∀ (kV doc pm : Value) (an : Option Addr) (cdv ct : Value) (us : List Value), us.length = (["bits", "count"] : List Str).length → bindArgs (PySem.W.fnOf "_law_lits" "_law_lits" (defArgs s__law_lits) (defBody s__law_lits) (defScope s__law_lits) .none kV doc pm an cdv ct) ⟨us, []⟩ = pure ((["bits", "count"] : List Str).zip us) := fun _ _ _ _ _ _ us hl => match us, hl with | [_, _], _ => rfl
theorem k__law_lits (Hs : Has K mg "_law_lits" s__law_lits ["bits", "count"]) (Bl : Blt mg)  : Fct P w K mg base "_law_lits" ["bits", "count"] 1 f__law_lits_k16 :=
  fct_ok (g := g__law_lits_k16) rfl rfl rfl Hs sc__law_lits (fun fa cdv A outer s H E C tk => xs_one (xs_ret (xf_lcR C.calm sc__law_lits.nd Bl.range (xa_cons (xe_int) (xa_cons (xe_op op_addX r_add (xb_var 1) (xb_of (xe_int))) xa_nil)) argsE2 (blkOk_by (own := [("k", 2)]) (N := N__law_lits) (sc := defScope s__law_lits) (by decide +kernel)) (fun s H c cl fp => pg_name (i := 2) sc__law_lits.nd rfl (.inl rfl)) (fun s H c cl fp => pts_yes) (fun s H c cl fp => xe_if (xt_val (xe_ix (xb_var 0) (xb_of (xe_op op_sub r_sub (xb_var 2) (xb_of (xe_int)))))) (xe_var 2) (xe_neg (xb_var 2))))))
abbrev s__law_first : Stmt := topS 35
abbrev N__law_first : List Str := ["pile", "wishes", "bits", "k"]
theorem sc__law_first : FnScope N__law_first ["pile", "wishes", "bits"] (defScope s__law_first) := ⟨rfl, rfl, rfl, by decide +kernel, rfl, by decide +kernel, by decide +kernel⟩
theorem b__law_first : ∀ (kV doc pm : Value) (an : Option Addr) (cdv ct : Value) (us : List Value), us.length = (["pile", "wishes", "bits"] : List Str).length → bindArgs (PySem.W.fnOf "_law_first" "_law_first" (defArgs s__law_first) (defBody s__law_first) (defScope s__law_first) .none kV doc pm an cdv ct) ⟨us, []⟩ = pure ((["pile", "wishes", "bits"] : List Str).zip us) := fun _ _ _ _ _ _ us hl => match us, hl with | [_, _, _], _ => rfl
theorem k__law_first (Hs : Has K mg "_law_first" s__law_first ["pile", "wishes", "bits"]) (Bl : Blt mg) (h__law_torn : Fct P w K mg base "_law_torn" ["lits"] 1 f__law_torn_k16) (h__law_reach : Fct P w K mg base "_law_reach" ["pile", "starts"] 1 f__law_reach_k16) (h__law_lits : Fct P w K mg base "_law_lits" ["bits", "count"] 1 f__law_lits_k16) : Fct P w K mg base "_law_first" ["pile", "wishes", "bits"] 2 f__law_first_k12 :=
  fct_ok (g := g__law_first_k12) rfl rfl rfl Hs sc__law_first (fun fa cdv A outer s H E C tk => xs_cons (xs_forR2 C Bl.range (xa_cons (xe_int) (xa_cons (xe_op op_addX r_add (xb_of (xe_B call_len r_len (by rfl) Bl.len (by decide +kernel) (xb_var 2))) (xb_of (xe_int))) xa_nil)) (pg_name (i := 3) sc__law_first.nd rfl (by first | exact .inl rfl | exact .inr rfl)) tg_name nx_name
  (xs_one (xs_if (xt_w (xw_and (xt_val (xe_ix (xb_var 2) (xb_of (xe_op op_sub r_sub (xb_var 3) (xb_of (xe_int)))))) (xw_and1 (xt_not (xt_val (xe_callS C h__law_torn (by decide) f__law_torn_k16_len (xab_cons (xb_of (xe_fz (xf_callF C h__law_reach (by decide) f__law_reach_k16_len (xa_cons (xe_var 0) (xa_cons (xe_fz (xf_op op_cat r_cat (xb_of (xe_fz (xf_op op_cat r_cat (xb_var 1) (xb_of (xe_fz (xf_callF C h__law_lits (by decide) f__law_lits_k16_len (xa_cons (xe_var 2) (xa_cons (xe_op op_sub r_sub (xb_var 3) (xb_of (xe_int))) xa_nil)))))))) (xb_of (xe_fz (xf_lst (xa_cons (xe_neg (xb_var 3)) xa_nil)))))) xa_nil))))) xab_nil)))))))
  (xs_one (xs_ret (xf_of (xe_bl))))
  (xs_nil))) argsE2)
  (xs_one (xs_ret (xf_of (xe_bl)))))
abbrev s__law_told : Stmt := topS 36
abbrev N__law_told : List Str := ["book", "pile", "bits", "ring"]
theorem sc__law_told : FnScope N__law_told ["book", "pile"] (defScope s__law_told) := ⟨rfl, rfl, rfl, by decide +kernel, rfl, by decide +kernel, by decide +kernel⟩
theorem b__law_told : ∀ (kV doc pm : Value) (an : Option Addr) (cdv ct : Value) (us : List Value), us.length = (["book", "pile"] : List Str).length → bindArgs (PySem.W.fnOf "_law_told" "_law_told" (defArgs s__law_told) (defBody s__law_told) (defScope s__law_told) .none kV doc pm an cdv ct) ⟨us, []⟩ = pure ((["book", "pile"] : List Str).zip us) := fun _ _ _ _ _ _ us hl => match us, hl with | [_, _], _ => rfl
theorem k__law_told (Hs : Has K mg "_law_told" s__law_told ["book", "pile"]) (Bl : Blt mg) (Tb : BkTxt K) (h_m_setting : FctM P w K mg base "setting" ["self"] 5 f_m_setting) (h_m_ring : FctM P w K mg base "ring" ["self"] 4 f_m_ring) (h__law_first : Fct P w K mg base "_law_first" ["pile", "wishes", "bits"] 2 f__law_first_k12) (h__law_is_ring : Fct P w K mg base "_law_is_ring" ["pile", "found"] 3 f__law_is_ring) (h__law_is_setting : Fct P w K mg base "_law_is_setting" ["found", "many"] 1 f__law_is_setting) (h__law_all_true : Fct P w K mg base "_law_all_true" ["pile", "bits"] 2 f__law_all_true) : Fct P w K mg base "_law_told" ["book", "pile"] 6 f__law_told :=
  fct_ok (g := g__law_told) rfl rfl rfl Hs sc__law_told (fun fa cdv A outer s H E C tk => xs_cons (xs_set (i := 2) sc__law_told.nd (xf_of (xe_fz (xf_callM0 C h_m_setting (by decide) f_m_setting_len (xe_var 0)))))
  (xs_cons (xs_set (i := 3) sc__law_told.nd (xf_of (xe_fz (xf_callM0 C h_m_ring (by decide) f_m_ring_len (xe_var 0)))))
  (xs_cons (xs_if (xt_cmp op_isN r_isN (xb_var 2) (xb_of (xe_non)) (nomark _))
  (xs_one (xs_ret (xf_of (xe_callS C h__law_is_ring (by decide) f__law_is_ring_len (xab_cons (xb_var 1) (xab_cons (xb_var 3) xab_nil))))))
  (xs_nil))
  (xs_cons (xs_if (xt_w (xw_or (xt_cmp op_notN r_notN (xb_var 3) (xb_of (xe_non)) (nomark _)) (xw_or (xt_not (xt_val (xe_callS C h__law_is_setting (by decide) f__law_is_setting_len (xab_cons (xb_var 2) (xab_cons (xb_of (xe_many Tb (xb_var 0))) xab_nil))))) (xw_or1 (xt_not (xt_val (xe_callS C h__law_all_true (by decide) f__law_all_true_len (xab_cons (xb_var 1) (xab_cons (xb_var 2) xab_nil)))))))))
  (xs_one (xs_ret (xf_of (xe_bl))))
  (xs_nil))
  (xs_one (xs_ret (xf_callF C h__law_first (by decide) f__law_first_k12_len (xa_cons (xe_var 1) (xa_cons (xe_fz (xf_lst (xa_nil))) (xa_cons (xe_var 2) xa_nil))))))))))
abbrev s__law_answers : Stmt := topS 37
abbrev N__law_answers : List Str := ["book", "pile", "say", "found"]
theorem sc__law_answers : FnScope N__law_answers ["book", "pile", "say", "found"] (defScope s__law_answers) := ⟨rfl, rfl, rfl, by decide +kernel, rfl, by decide +kernel, by decide +kernel⟩
theorem b__law_answers : ∀ (kV doc pm : Value) (an : Option Addr) (cdv ct : Value) (us : List Value), us.length = (["book", "pile", "say", "found"] : List Str).length → bindArgs (PySem.W.fnOf "_law_answers" "_law_answers" (defArgs s__law_answers) (defBody s__law_answers) (defScope s__law_answers) .none kV doc pm an cdv ct) ⟨us, []⟩ = pure ((["book", "pile", "say", "found"] : List Str).zip us) := fun _ _ _ _ _ _ us hl => match us, hl with | [_, _, _, _], _ => rfl
theorem k__law_answers (Hs : Has K mg "_law_answers" s__law_answers ["book", "pile", "say", "found"]) (Bl : Blt mg) (Tb : BkTxt K) (h__law_is_ring : Fct P w K mg base "_law_is_ring" ["pile", "found"] 3 f__law_is_ring) (h__law_is_road : Fct P w K mg base "_law_is_road" ["pile", "found"] 2 f__law_is_road) (h__law_first : Fct P w K mg base "_law_first" ["pile", "wishes", "bits"] 2 f__law_first_k12) (h__law_is_setting : Fct P w K mg base "_law_is_setting" ["found", "many"] 1 f__law_is_setting) (h__law_all_true : Fct P w K mg base "_law_all_true" ["pile", "bits"] 2 f__law_all_true) (h__law_true : Fct P w K mg base "_law_true" ["say", "bits"] 1 f__law_true) (h_m_setting : FctM P w K mg base "setting" ["self"] 5 f_m_setting) : Fct P w K mg base "_law_answers" ["book", "pile", "say", "found"] 6 f__law_answers :=
  fct_ok (g := g__law_answers) rfl rfl rfl Hs sc__law_answers (fun fa cdv A outer s H E C tk => xs_cons (xs_if (xt_w (xw_or (xt_not (xt_val (xe_isi (T := "tuple") (by rfl) Bl.isinstance (by decide +kernel) (by rfl) Bl.tuple (by decide +kernel) (xb_var 3)))) (xw_or (xt_cmp (op_neD C.room.units) r_ne (xb_of (xe_B call_len r_len (by rfl) Bl.len (by decide +kernel) (xb_var 3))) (xb_of (xe_int)) (nomark _)) (xw_or1 (xt_not (xt_val (xe_isi (T := "str") (by rfl) Bl.isinstance (by decide +kernel) (by rfl) Bl.str (by decide +kernel) (xb_of (xe_ix (xb_var 3) (xb_of (xe_int)))))))))))
  (xs_one (xs_ret (xf_of (xe_bl))))
  (xs_nil))
  (xs_cons (xs_if (xt_cmp (op_eqD C.room.units) r_eq (xb_of (xe_ix (xb_var 3) (xb_of (xe_int)))) (xb_of (xe_str)) (nomark _))
  (xs_cons (xs_if (xt_w (xw_or (xt_not (xt_val (xe_callS C h__law_is_setting (by decide) f__law_is_setting_len (xab_cons (xb_of (xe_ix (xb_var 3) (xb_of (xe_int)))) (xab_cons (xb_of (xe_many Tb (xb_var 0))) xab_nil))))) (xw_or1 (xt_not (xt_val (xe_callS C h__law_all_true (by decide) f__law_all_true_len (xab_cons (xb_var 1) (xab_cons (xb_of (xe_ix (xb_var 3) (xb_of (xe_int)))) xab_nil))))))))
  (xs_one (xs_ret (xf_of (xe_bl))))
  (xs_nil))
  (xs_one (xs_ret (xf_of (xe_and (xe_not (xe_callS C h__law_true (by decide) f__law_true_len (xab_cons (xb_var 2) (xab_cons (xb_of (xe_ix (xb_var 3) (xb_of (xe_int)))) xab_nil)))) (xe_one (xe_fz (xf_callF C h__law_first (by decide) f__law_first_k12_len (xa_cons (xe_var 1) (xa_cons (xe_fz (xf_lst (xa_cons (xe_neg (xb_of (xe_ix (xb_var 2) (xb_of (xe_int))))) (xa_cons (xe_neg (xb_of (xe_ix (xb_var 2) (xb_of (xe_int))))) xa_nil)))) (xa_cons (xe_ix (xb_var 3) (xb_of (xe_int))) xa_nil)))))))))))
  (xs_nil))
  (xs_cons (xs_if (xt_cmp (op_neD C.room.units) r_ne (xb_of (xe_ix (xb_var 3) (xb_of (xe_int)))) (xb_of (xe_ix (xb_of (xe_fz (xf_lst (xa_cons (xe_str) (xa_cons (xe_str) xa_nil))))) (xb_of (xe_Ty call_intX r_int (by rfl) Bl.int (by decide +kernel) (xb_of (xe_cmp op_isN r_isN (xb_of (xe_fz (xf_callM0 C h_m_setting (by decide) f_m_setting_len (xe_var 0)))) (xb_of (xe_non)) (nomark _))))))) (nomark _))
  (xs_one (xs_ret (xf_of (xe_bl))))
  (xs_nil))
  (xs_cons (xs_if (xt_cmp (op_eqD C.room.units) r_eq (xb_of (xe_ix (xb_var 3) (xb_of (xe_int)))) (xb_of (xe_str)) (nomark _))
  (xs_one (xs_ret (xf_of (xe_callS C h__law_is_ring (by decide) f__law_is_ring_len (xab_cons (xb_var 1) (xab_cons (xb_of (xe_ix (xb_var 3) (xb_of (xe_int)))) xab_nil))))))
  (xs_nil))
  (xs_one (xs_ret (xf_of (xe_and (xe_callS C h__law_is_road (by decide) f__law_is_road_len (xab_cons (xb_var 1) (xab_cons (xb_of (xe_ix (xb_var 3) (xb_of (xe_int)))) xab_nil))) (xe_and (xe_cmp (op_inX (hu65 C.room)) r_in (xb_of (xe_neg (xb_of (xe_ix (xb_of (xe_ix (xb_var 3) (xb_of (xe_int)))) (xb_of (xe_int)))))) (xb_var 2) (by rfl)) (xe_one (xe_cmp (op_inX (hu65 C.room)) r_in (xb_of (xe_ix (xb_of (xe_ix (xb_var 3) (xb_of (xe_int)))) (xb_of (xe_neg (xb_of (xe_int)))))) (xb_var 2) (by rfl))))))))))))
abbrev s__law_asked : Stmt := topS 38
abbrev N__law_asked : List Str := ["book", "pile", "say", "found"]
theorem sc__law_asked : FnScope N__law_asked ["book", "pile", "say"] (defScope s__law_asked) := ⟨rfl, rfl, rfl, by decide +kernel, rfl, by decide +kernel, by decide +kernel⟩
theorem b__law_asked : ∀ (kV doc pm : Value) (an : Option Addr) (cdv ct : Value) (us : List Value), us.length = (["book", "pile", "say"] : List Str).length → bindArgs (PySem.W.fnOf "_law_asked" "_law_asked" (defArgs s__law_asked) (defBody s__law_asked) (defScope s__law_asked) .none kV doc pm an cdv ct) ⟨us, []⟩ = pure ((["book", "pile", "say"] : List Str).zip us) := fun _ _ _ _ _ _ us hl => match us, hl with | [_, _, _], _ => rfl
abbrev s__law_which : Stmt := topS 39
abbrev N__law_which : List Str := ["e", "some"]
theorem sc__law_which : FnScope N__law_which ["e"] (defScope s__law_which) := ⟨rfl, rfl, rfl, by decide +kernel, rfl, by decide +kernel, by decide +kernel⟩
theorem b__law_which : ∀ (kV doc pm : Value) (an : Option Addr) (cdv ct : Value) (us : List Value), us.length = (["e"] : List Str).length → bindArgs (PySem.W.fnOf "_law_which" "_law_which" (defArgs s__law_which) (defBody s__law_which) (defScope s__law_which) .none kV doc pm an cdv ct) ⟨us, []⟩ = pure ((["e"] : List Str).zip us) := fun _ _ _ _ _ _ us hl => match us, hl with | [_], _ => rfl
abbrev s__law_put_ill : Stmt := topS 40
abbrev N__law_put_ill : List Str := ["book", "say", "e"]
theorem sc__law_put_ill : FnScope N__law_put_ill ["book", "say"] (defScope s__law_put_ill) := ⟨rfl, rfl, rfl, by decide +kernel, rfl, by decide +kernel, by decide +kernel⟩
theorem b__law_put_ill : ∀ (kV doc pm : Value) (an : Option Addr) (cdv ct : Value) (us : List Value), us.length = (["book", "say"] : List Str).length → bindArgs (PySem.W.fnOf "_law_put_ill" "_law_put_ill" (defArgs s__law_put_ill) (defBody s__law_put_ill) (defScope s__law_put_ill) .none kV doc pm an cdv ct) ⟨us, []⟩ = pure ((["book", "say"] : List Str).zip us) := fun _ _ _ _ _ _ us hl => match us, hl with | [_, _], _ => rfl
theorem k__law_put_ill (Hs : Has K mg "_law_put_ill" s__law_put_ill ["book", "say"]) (Bl : Blt mg) (h_m_add : FctM P w K mg base "add" ["self", "say"] 1 f_m_add) (x_BadSay : ExcIs K mg "BadSay" "SayError" ["EmptyBook", "BadLine", "FullBook", "NoSetting"]) (w_BadSay : WhAt P w K mg base "BadSay" [true, false, false, false, false, true]) : Fct P w K mg base "_law_put_ill" ["book", "say"] 2 f__law_put_ill :=
  fct_ok (g := g__law_put_ill) rfl rfl rfl Hs sc__law_put_ill (fun fa cdv A outer s H E C tk => xs_cons (xs_try (i := 2) (c := "BadSay") (s := "SayError") (r := (.bool true)) C tk x_BadSay rfl rfl sc__law_put_ill.nd rfl rfl rfl (by decide) (fun pn xe E2 C2 tk2 => xs_one (xs_drop (xf_callM C2 h_m_add (by decide) f_m_add_len (xe_var 0) (xa_cons (xe_var 1) xa_nil)))) (fun a oe Ca pn gC hz hf => su_which (i := 2) C rfl rfl (by first | exact .inl rfl | exact .inr rfl) ⟨by decide, by decide⟩ w_BadSay gC hz hf))
  (xs_one (xs_ret (xf_of (xe_bl)))))
abbrev s__law_taken_ill : Stmt := topS 41
abbrev N__law_taken_ill : List Str := ["book", "e"]
theorem sc__law_taken_ill : FnScope N__law_taken_ill ["book"] (defScope s__law_taken_ill) := ⟨rfl, rfl, rfl, by decide +kernel, rfl, by decide +kernel, by decide +kernel⟩
theorem b__law_taken_ill : ∀ (kV doc pm : Value) (an : Option Addr) (cdv ct : Value) (us : List Value), us.length = (["book"] : List Str).length → bindArgs (PySem.W.fnOf "_law_taken_ill" "_law_taken_ill" (defArgs s__law_taken_ill) (defBody s__law_taken_ill) (defScope s__law_taken_ill) .none kV doc pm an cdv ct) ⟨us, []⟩ = pure ((["book"] : List Str).zip us) := fun _ _ _ _ _ _ us hl => match us, hl with | [_], _ => rfl
theorem k__law_taken_ill (Hs : Has K mg "_law_taken_ill" s__law_taken_ill ["book"]) (Bl : Blt mg) (h_m_back : FctM P w K mg base "back" ["self"] 1 f_m_back) (x_EmptyBook : ExcIs K mg "EmptyBook" "SayError" ["BadSay", "BadLine", "FullBook", "NoSetting"]) (w_EmptyBook : WhAt P w K mg base "EmptyBook" [false, true, false, false, false, true]) : Fct P w K mg base "_law_taken_ill" ["book"] 2 f__law_taken_ill :=
  fct_ok (g := g__law_taken_ill) rfl rfl rfl Hs sc__law_taken_ill (fun fa cdv A outer s H E C tk => xs_cons (xs_try (i := 1) (c := "EmptyBook") (s := "SayError") (r := (.bool true)) C tk x_EmptyBook rfl rfl sc__law_taken_ill.nd rfl rfl rfl (by decide) (fun pn xe E2 C2 tk2 => xs_one (xs_drop (xf_callM0 C2 h_m_back (by decide) f_m_back_len (xe_var 0)))) (fun a oe Ca pn gC hz hf => su_which (i := 1) C rfl rfl (by first | exact .inl rfl | exact .inr rfl) ⟨by decide, by decide⟩ w_EmptyBook gC hz hf))
  (xs_one (xs_ret (xf_of (xe_bl)))))
abbrev s__law_deed : Stmt := topS 42
abbrev N__law_deed : List Str := ["book", "pile", "cell", "many", "say", "way", "beyond", "ill", "found"]
theorem sc__law_deed : FnScope N__law_deed ["book", "pile", "cell", "many"] (defScope s__law_deed) := ⟨rfl, rfl, rfl, by decide +kernel, rfl, by decide +kernel, by decide +kernel⟩
theorem b__law_deed : ∀ (kV doc pm : Value) (an : Option Addr) (cdv ct : Value) (us : List Value), us.length = (["book", "pile", "cell", "many"] : List Str).length → bindArgs (PySem.W.fnOf "_law_deed" "_law_deed" (defArgs s__law_deed) (defBody s__law_deed) (defScope s__law_deed) .none kV doc pm an cdv ct) ⟨us, []⟩ = pure ((["book", "pile", "cell", "many"] : List Str).zip us) := fun _ _ _ _ _ _ us hl => match us, hl with | [_, _, _, _], _ => rfl
theorem k__law_deed (Hs : Has K mg "_law_deed" s__law_deed ["book", "pile", "cell", "many"]) (Bl : Blt mg) (h__law_asked : Fct P w K mg base "_law_asked" ["book", "pile", "say"] 7 f__law_asked) (h__law_lit_by : Fct P w K mg base "_law_lit_by" ["index"] 1 f__law_lit_by) (h__law_put_ill : Fct P w K mg base "_law_put_ill" ["book", "say"] 2 f__law_put_ill) (h__law_told : Fct P w K mg base "_law_told" ["book", "pile"] 6 f__law_told) (h__law_taken_ill : Fct P w K mg base "_law_taken_ill" ["book"] 2 f__law_taken_ill) (h_m_setting : FctM P w K mg base "setting" ["self"] 5 f_m_setting) (h_m_ring : FctM P w K mg base "ring" ["self"] 4 f_m_ring) : Fct P w K mg base "_law_deed" ["book", "pile", "cell", "many"] 8 f__law_deed :=
  fct_ok (g := g__law_deed) rfl rfl rfl Hs sc__law_deed (fun fa cdv A outer s H E C tk => xs_cons (xs_set (i := 4) sc__law_deed.nd (xf_of (xe_tup (xa_cons (xe_callS C h__law_lit_by (by decide) f__law_lit_by_len (xab_cons (xb_of (xe_op op_mod r_mod (xb_of (xe_op op_fdiv r_div (xb_var 2) (xb_of (xe_int)))) (xb_of (xe_op op_mul r_mul (xb_of (xe_int)) (xb_var 3))))) xab_nil)) (xa_cons (xe_callS C h__law_lit_by (by decide) f__law_lit_by_len (xab_cons (xb_of (xe_op op_mod r_mod (xb_of (xe_op op_fdiv r_div (xb_var 2) (xb_of (xe_op op_mul r_mul (xb_of (xe_int)) (xb_var 3))))) (xb_of (xe_op op_mul r_mul (xb_of (xe_int)) (xb_var 3))))) xab_nil)) xa_nil)))))
  (xs_cons (xs_set (i := 5) sc__law_deed.nd (xf_of (xe_op op_mod r_mod (xb_var 2) (xb_of (xe_int)))))
  (xs_cons (xs_if (xt_cmp op_lt r_cmp (xb_var 5) (xb_of (xe_int)) (nomark _))
  (xss_bad)
  (xs_nil))
  (xs_cons (xs_if (xt_cmp (op_eqD C.room.units) r_eq (xb_var 5) (xb_of (xe_int)) (nomark _))
  (xs_cons (xs_set (i := 6) sc__law_deed.nd (xf_of (xe_ix (xb_of (xe_fz (xf_lst (xa_cons (xe_int) (xa_cons (xe_op op_addX r_add (xb_of (xe_op op_addX r_add (xb_var 3) (xb_of (xe_int)))) (xb_of (xe_op op_mod r_mod (xb_of (xe_op op_fdiv r_div (xb_var 2) (xb_of (xe_int)))) (xb_of (xe_int))))) (xa_cons (xe_op op_sub r_sub (xb_of (xe_neg (xb_var 3))) (xb_of (xe_int))) xa_nil)))))) (xb_of (xe_op op_mod r_mod (xb_of (xe_op op_fdiv r_div (xb_var 2) (xb_of (xe_int)))) (xb_of (xe_int)))))))
  (xs_cons (xs_set (i := 7) sc__law_deed.nd (xf_of (xe_ix (xb_of (xe_fz (xf_lst (xa_cons (xe_tup (xa_cons (xe_ix (xb_var 4) (xb_of (xe_int))) (xa_cons (xe_var 6) xa_nil))) (xa_cons (xe_tup (xa_cons (xe_var 6) (xa_cons (xe_ix (xb_var 4) (xb_of (xe_int))) xa_nil))) xa_nil))))) (xb_of (xe_op op_mod r_mod (xb_of (xe_op op_fdiv r_div (xb_var 2) (xb_of (xe_int)))) (xb_of (xe_int)))))))
  (xs_one (xs_ret (xf_callF C h__law_put_ill (by decide) f__law_put_ill_len (xa_cons (xe_var 0) (xa_cons (xe_var 7) xa_nil)))))))
  (xs_nil))
  (xs_cons (xs_if (xt_cmp (op_eqD C.room.units) r_eq (xb_var 5) (xb_of (xe_int)) (nomark _))
  (xs_cons (xs_if (xt_cmp (op_eqD C.room.units) r_eq (xb_of (xe_B call_len r_len (by rfl) Bl.len (by decide +kernel) (xb_var 1))) (xb_of (xe_int)) (nomark _))
  (xs_one (xs_ret (xf_callF C h__law_taken_ill (by decide) f__law_taken_ill_len (xa_cons (xe_var 0) xa_nil))))
  (xs_nil))
  (xss_bad))
  (xs_nil))
  (xs_cons (xs_if (xt_cmp (op_eqD C.room.units) r_eq (xb_var 5) (xb_of (xe_int)) (nomark _))
  (xs_cons (xs_if (xt_not (xt_val (xe_fz (xf_callF C h__law_told (by decide) f__law_told_len (xa_cons (xe_var 0) (xa_cons (xe_var 1) xa_nil))))))
  (xs_one (xs_ret (xf_of (xe_bl))))
  (xs_nil))
  (xs_cons (xs_clr2 C sc__law_deed.nd (by rfl) (xf_callM0 C h_m_setting (by decide) f_m_setting_len (xe_var 0)) (xf_callM0 C h_m_ring (by decide) f_m_ring_len (xe_var 0)))
  (xs_one (xs_ret (xf_callF C h__law_told (by decide) f__law_told_len (xa_cons (xe_var 0) (xa_cons (xe_var 1) xa_nil)))))))
  (xs_nil))
  (xs_one (xs_ret (xf_callF C h__law_asked (by decide) f__law_asked_len (xa_cons (xe_var 0) (xa_cons (xe_var 1) (xa_cons (xe_var 4) xa_nil))))))))))))
abbrev s_law : Stmt := topS 43
abbrev N_law : List Str := ["script", "many", "book", "other", "pile", "k", "found"]
theorem sc_law : FnScope N_law ["script"] (defScope s_law) := ⟨rfl, rfl, rfl, by decide +kernel, rfl, by decide +kernel, by decide +kernel⟩
theorem b_law : ∀ (kV doc pm : Value) (an : Option Addr) (cdv ct : Value) (us : List Value), us.length = (["script"] : List Str).length → bindArgs (PySem.W.fnOf "law" "law" (defArgs s_law) (defBody s_law) (defScope s_law) .none kV doc pm an cdv ct) ⟨us, []⟩ = pure ((["script"] : List Str).zip us) := fun _ _ _ _ _ _ us hl => match us, hl with | [_], _ => rfl
end
end Px
namespace Px
open PySem L2
noncomputable section
structure BkMk (K : PySem.W.Frag) (mg : Str → Option Value) : Prop where
  ex : ∃ C : Addr, PySem.W.nsIn K mainGlobals "Book" = some (some (.ref C)) ∧ mg "Book" = some (.ref C) ∧ PySem.W.makesIn K C = true ∧ PySem.W.keepIn K (.ref C) = true ∧ Cls K C ∧ NoAttr K C "many" ∧ NoAttr K C "held"
/-- a Book stands at p, its list at h -/
structure BkAt (K : PySem.W.Frag) (H : Hp) (p h : Addr) (n : Int) (xs : List V) : Prop where
  ex : ∃ C dx : Addr, PySem.W.nsIn K mainGlobals "Book" = some (some (.ref C)) ∧ H p = some (.ins C dx [("many", .int n), ("held", .ref h)])
  held : H h = some (.lst xs)
def litOk (n i : Int) : Prop := i ≠ 0 ∧ ((i.natAbs : Nat) : Int) ≤ n
def spInit (K : PySem.W.Frag) : Sp := fun vs H Q _ => ∃ (C p dx : Addr) (n : Int), PySem.W.nsIn K mainGlobals "Book" = some (some (.ref C)) ∧ vs = [.ref p, .int n] ∧ H p = some (.ins C dx []) ∧
  ∀ h H', H h = none → BkAt K H' p h n [] → (∀ b o, b ≠ p → H b = some o → H' b = some o) → Q .non H'
def spAddC (K : PySem.W.Frag) : Sp := fun vs H Q _ => ∃ (p h : Addr) (n : Int) (xs : List V) (ds : List PD) (v : V) (i j : Int), vs = [.ref p, v] ∧ BkAt K H p h n xs ∧ DqAll K H xs ds ∧ Dq K H v (.tuple [.int i, .int j]) ∧ litOk n i ∧ litOk n j ∧ ds.length < 400 ∧
  ∀ u H', H' h = some (.lst (xs ++ [u])) → Dq K H' u (.tuple [.int i, .int j]) → (∀ b o, b ≠ h → H b = some o → H' b = some o) → Q .non H'
def spBackC (K : PySem.W.Frag) : Sp := fun vs H Q _ => ∃ (p h : Addr) (n : Int) (xs : List V) (x : V) (ds : List PD), vs = [.ref p] ∧ BkAt K H p h n (xs ++ [x]) ∧ DqAll K H (xs ++ [x]) ds ∧
  ∀ H', H' h = some (.lst xs) → (∀ b o, b ≠ h → H b = some o → H' b = some o) → Q x H'
/-- a method of the Book keeps a promise -/
structure MetOk (P : Program) (w : World) (K : PySem.W.Frag) (mg : Str → Option Value) (base : Heap) (nm : Str) (ps : List Str) (k : Nat) (sp : Sp) : Prop where
  ex : ∃ (C a : Addr) (fd : FuncData), PySem.W.nsIn K mainGlobals "Book" = some (some (.ref C)) ∧ Cls K C ∧ Meth K C nm a ∧ Binds K fd ps [] ∧ FnOk P w K mg base (L2.CX P w) k a fd ps sp
structure AllV (K : PySem.W.Frag) (H : Hp) (σ : St) (L : Env) : Prop where
  len : L.length = σ.length
  at_ : ∀ i d, getE L i = some d → ∃ pd x, d = .val pd ∧ σ[i]? = some (some x) ∧ Dq K H x pd
theorem AllV.lr {K : PySem.W.Frag} {H : Hp} {σ : St} {L : Env} (a : AllV K H σ L) : LR K noHp noHp H H σ L := by
  refine ⟨same_none, same_none, Same.refl _, (fun _ _ h => by cases h), (fun _ _ h => by cases h), (fun _ _ h => by cases h), fun i d e => ?_, a.len, fun i j b di dj e1 e2 m1 => ?_⟩
  · obtain ⟨pd, x, ed, es, h⟩ := a.at_ i d e
    subst ed
    exact ⟨x, es, h⟩
  · obtain ⟨pd, x, ed, _⟩ := a.at_ i di e1
    subst ed
    cases m1
theorem AllV.mono {K : PySem.W.Frag} {H H2 : Hp} {σ : St} {L : Env} (a : AllV K H σ L) (s : Same H H2) : AllV K H2 σ L := ⟨a.len, fun i d e => by
  obtain ⟨pd, x, ed, es, h⟩ := a.at_ i d e
  exact ⟨pd, x, ed, es, dp_mono s _ _ h⟩⟩
theorem allV_nil {K : PySem.W.Frag} {H : Hp} : AllV K H [] [] := ⟨rfl, fun i d e => by cases i <;> cases e⟩
theorem AllV.cons {K : PySem.W.Frag} {H : Hp} {σ : St} {L : Env} {s : Option V} {o : Option D} (h : ∀ d, o = some d → ∃ pd x, d = .val pd ∧ s = some x ∧ Dq K H x pd) (a : AllV K H σ L) : AllV K H (s :: σ) (o :: L) := ⟨congrArg (· + 1) a.len, fun i d e => by
  cases i with
  | zero =>
    obtain ⟨pd, x, e1, e2, e3⟩ := h d e
    exact ⟨pd, x, e1, by rw [e2]; rfl, e3⟩
  | succ i => exact a.at_ i d e⟩
theorem AllV.v {K : PySem.W.Frag} {H : Hp} {σ : St} {L : Env} {x : V} {d : PD} (h : Dq K H x d) (a : AllV K H σ L) : AllV K H (some x :: σ) (some (.val d) :: L) := a.cons fun d' e => by
  cases e
  exact ⟨d, x, rfl, rfl, h⟩
theorem AllV.n {K : PySem.W.Frag} {H : Hp} {σ : St} {L : Env} {s : Option V} (a : AllV K H σ L) : AllV K H (s :: σ) (none :: L) := a.cons fun d' e => by cases e
theorem AllV.head {K : PySem.W.Frag} {H : Hp} {σ : St} {L : Env} {d : PD} (a : AllV K H σ (some (.val d) :: L)) : ∃ x r, σ = some x :: r ∧ Dq K H x d ∧ AllV K H r L := by
  obtain ⟨len, at_⟩ := a
  cases σ with
  | nil => cases len
  | cons s r =>
    obtain ⟨pd, x, e1, e2, e3⟩ := at_ 0 _ rfl
    cases e1
    have e2 : some s = some (some x) := e2
    cases e2
    exact ⟨x, r, rfl, e3, Nat.succ.inj len, fun i d e => at_ (i + 1) d e⟩
theorem AllV.skip {K : PySem.W.Frag} {H : Hp} {σ : St} {L : Env} {o : Option D} (a : AllV K H σ (o :: L)) : ∃ s r, σ = s :: r ∧ AllV K H r L := by
  obtain ⟨len, at_⟩ := a
  cases σ with
  | nil => cases len
  | cons s r => exact ⟨s, r, rfl, Nat.succ.inj len, fun i d e => at_ (i + 1) d e⟩
/-- a list of slots without lists or dicts of the def's own -/
def valsL (L : Env) : Prop := ∀ i d, getE L i = some d → ∃ pd, d = .val pd
theorem valsL_nil : valsL [] := fun i d e => by cases i <;> cases e
theorem valsL.v {L : Env} {d : PD} (h : valsL L) : valsL (some (.val d) :: L) := fun i e q => by
  cases i with
  | zero =>
    cases q
    exact ⟨d, rfl⟩
  | succ i => exact h i e q
theorem valsL.n {L : Env} (h : valsL L) : valsL (none :: L) := fun i e q => by
  cases i with
  | zero => cases q
  | succ i => exact h i e q
section
variable {K : PySem.W.Frag} {mg : Str → Option Value} {E : XK} {H : Hp} {σ : St} {L L' : Env} {D : Ends}
theorem LR.all {F M G : Hp} (lr : LR K F M G H σ L) (v : valsL L) : AllV K H σ L := ⟨lr.len, fun i d e => by
  obtain ⟨pd, ed⟩ := v i d e
  subst ed
  obtain ⟨x, es, h⟩ := lr.slot i _ e
  exact ⟨pd, x, rfl, es, dp_mono lr.g _ _ h⟩⟩
/-- a statement that is read goes on -/
theorem st_next {g : Env → Out} (a : AllV K H σ L) (e : g L = .next L') (v : valsL L') (k : ∀ σ' H', Same H H' → AllV K H' σ' L' → D.nx σ' H') : tS K mg E g D σ H := by
  refine ⟨noHp, noHp, H, L, a.lr, ?_⟩
  rw [e]
  exact fun σ' M' G' H' s lr => k σ' H' (s.trans lr.g) (lr.all v)
theorem st_ret {g : Env → Out} {d : PD} (a : AllV K H σ L) (e : g L = .ret (.val d)) (k : ∀ v H', Same H H' → Dq K H' v d → D.rt v H') : tS K mg E g D σ H := by
  refine ⟨noHp, noHp, H, L, a.lr, ?_⟩
  rw [e]
  exact fun v G' H' s _ s2 _ hv => k v H' (s.trans s2) (dp_mono s2 _ _ hv)
theorem te_val {f : Env → R PD} {d : PD} {Q : VK} (a : AllV K H σ L) (e : f L = .ok d) (k : ∀ v H', Same H H' → Dq K H' v d → Q v H') : tX K mg E f σ H Q := by
  refine ⟨noHp, noHp, H, L, a.lr, ?_⟩
  rw [e]
  exact fun G2 H2 s1 s2 lr v hv => k v H2 s2 (dp_mono lr.g _ _ hv)
theorem te_own {f : Env → R Px.D} {ds : List PD} {Q : VK} (a : AllV K H σ L) (e : f L = .ok (.own ds)) (k : ∀ z xs H', Same H H' → H z = none → H' z = some (.lst xs) → DqAll K H' xs ds → Q (.ref z) H') : tF K mg E f σ H Q := by
  refine ⟨noHp, noHp, H, L, a.lr, ?_⟩
  rw [e]
  intro G2 H2 s1 s2 lr v ⟨z, xs, ev, gz, _, _, hz, hd⟩
  subst ev
  exact k z xs H2 s2 (s1.free gz) hz (dpAll_mono lr.g _ _ hd)
theorem te_fval {f : Env → R Px.D} {d : PD} {Q : VK} (a : AllV K H σ L) (e : f L = .ok (.val d)) (k : ∀ v H', Same H H' → Dq K H' v d → Q v H') : tF K mg E f σ H Q := by
  refine ⟨noHp, noHp, H, L, a.lr, ?_⟩
  rw [e]
  exact fun G2 H2 s1 s2 lr v hv => k v H2 s2 (dp_mono lr.g _ _ hv)
theorem tt_val {f : Env → R Bool} {b : Bool} {Q : Bool → Hp → Prop} (a : AllV K H σ L) (e : f L = .ok b) (k : ∀ H', Same H H' → Q b H') : tT K mg E f σ H Q := by
  refine ⟨noHp, noHp, H, L, a.lr, ?_⟩
  rw [e]
  exact fun G2 H2 s1 s2 lr => k H2 s2
theorem ta_val {f : Env → R (List PD)} {ds : List PD} {Q : List V → Hp → Prop} (a : AllV K H σ L) (e : f L = .ok ds) (k : ∀ vs H', Same H H' → DqAll K H' vs ds → Q vs H') : tA K mg E f σ H Q := by
  refine ⟨noHp, noHp, H, L, a.lr, ?_⟩
  rw [e]
  exact fun G2 H2 s1 s2 lr vs hv => k vs H2 s2 (dpAll_mono lr.g _ _ hv)
end
theorem dq_pair {K : PySem.W.Frag} {H H' : Hp} {v : V} {i j : Int} (h : Dq K H v (.tuple [.int i, .int j])) (s : ∀ b xs, H b = some (.tup xs) → H' b = some (.tup xs)) : Dq K H' v (.tuple [.int i, .int j]) := by
  cases h with
  | tup q a =>
    cases a with
    | cons a1 a2 =>
      cases a2 with
      | cons a2 a3 =>
        cases a3
        cases a1
        cases a2
        exact .tup (s _ _ q) (.cons (.int i) (.cons (.int j) .nil))
theorem dq_pairs {K : PySem.W.Frag} {H H' : Hp} (s : ∀ b xs, H b = some (.tup xs) → H' b = some (.tup xs)) : ∀ {ds : List PD} {vs : List V}, DqAll K H vs ds → (∀ d ∈ ds, tupI d = true) → DqAll K H' vs ds
  | [], _, h, _ => by
    cases h
    exact .nil
  | d :: ds, _, h, t => by
    cases h with
    | cons a b =>
      refine .cons ?_ (dq_pairs s b fun x hx => t x (List.mem_cons_of_mem _ hx))
      have td := t d List.mem_cons_self
      unfold tupI at td
      split at td
      · exact dq_pair a s
      · cases td
theorem tup_keep {H H' : Hp} {h : Addr} {xs : List V} (e : H h = some (.lst xs)) (k : ∀ b o, b ≠ h → H b = some o → H' b = some o) : ∀ b ys, H b = some (.tup ys) → H' b = some (.tup ys) := fun b ys q => k b _ (fun z => by
  subst z
  rw [e] at q
  cases q) q
theorem BkAt.mono {K : PySem.W.Frag} {H H' : Hp} {p h : Addr} {n : Int} {xs : List V} (b : BkAt K H p h n xs) (s : Same H H') : BkAt K H' p h n xs := by
  obtain ⟨⟨C, dx, c, e⟩, l⟩ := b
  exact ⟨⟨C, dx, c, s _ _ e⟩, s _ _ l⟩
theorem BkAt.put {K : PySem.W.Frag} {H H' : Hp} {p h : Addr} {n : Int} {xs ys : List V} (b : BkAt K H p h n xs) (e : H' h = some (.lst ys)) (k : ∀ b o, b ≠ h → H b = some o → H' b = some o) : BkAt K H' p h n ys := by
  obtain ⟨⟨C, dx, c, q⟩, l⟩ := b
  exact ⟨⟨C, dx, c, k _ _ (fun z => by subst z; rw [q] at l; cases l) q⟩, e⟩
theorem BkAt.dq {K : PySem.W.Frag} {H : Hp} {p h : Addr} {n : Int} {xs : List V} {ds : List PD} (b : BkAt K H p h n xs) (a : DqAll K H xs ds) : Dq K H (.ref p) (bkD n ds) := by
  obtain ⟨⟨C, dx, c, q⟩, l⟩ := b
  exact .book c q l a
end
end Px
namespace Px
open PySem L2
noncomputable section
section
variable {α β : Type}
@[simp] theorem bind_ok' (a : α) (f : α → R β) : (R.ok a).bind f = f a := rfl
@[simp] theorem bind_exc' (c : Str) (f : α → R β) : (R.exc c : R α).bind f = .exc c := rfl
@[simp] theorem bind_bad' (f : α → R β) : (R.bad : R α).bind f = .bad := rfl
@[simp] theorem out_ok' (a : α) (f : α → Out) : (R.ok a).out f = f a := rfl
@[simp] theorem out_exc' (c : Str) (f : α → Out) : (R.exc c : R α).out f = .exc c := rfl
@[simp] theorem out_bad' (f : α → Out) : (R.bad : R α).out f = .bad := rfl
@[simp] theorem nx_ok' (a : α) : (R.ok a).nx = .ok a := rfl
end
@[simp] theorem getE_z (x : Option D) (r : Env) : getE (x :: r) 0 = x := rfl
@[simp] theorem getE_s (x : Option D) (r : Env) (n : Nat) : getE (x :: r) (n + 1) = getE r n := rfl
@[simp] theorem setE_z (x d : Option D) (r : Env) : setE (x :: r) 0 d = d :: r := rfl
@[simp] theorem setE_s (x d : Option D) (r : Env) (n : Nat) : setE (x :: r) (n + 1) d = x :: setE r n d := rfl
@[simp] theorem varE_d (i : Nat) (L : Env) : varE i L = slotE (getE L i) := rfl
@[simp] theorem varB_d (i : Nat) (L : Env) : varB i L = slotB (getE L i) := rfl
@[simp] theorem slotE_v (d : PD) : slotE (some (.val d)) = .ok d := rfl
@[simp] theorem slotB_v (d : PD) : slotB (some (.val d)) = .ok d := rfl
@[simp] theorem slotB_o (ds : List PD) : slotB (some (.own ds)) = .ok (.list ds) := rfl
@[simp] theorem op2_d {α : Type} (g : PD → PD → R α) (a b : Env → R PD) (L : Env) : op2 g a b L = (a L).bind fun x => (b L).bind fun y => g x y := rfl
@[simp] theorem op1_d {α : Type} (g : PD → R α) (a : Env → R PD) (L : Env) : op1 g a L = (a L).bind g := rfl
@[simp] theorem constE_d (d : PD) (L : Env) : constE d L = .ok d := rfl
@[simp] theorem argsE_n (L : Env) : argsE [] L = .ok [] := rfl
@[simp] theorem argsE_c (f : Env → R PD) (fs : List (Env → R PD)) (L : Env) : argsE (f :: fs) L = (f L).bind fun d => (argsE fs L).bind fun ds => .ok (d :: ds) := rfl
@[simp] theorem tupE_d (fs : List (Env → R PD)) (L : Env) : tupE fs L = (argsE fs L).bind fun ds => .ok (.tuple ds) := rfl
@[simp] theorem lstE_d (fs : List (Env → R PD)) (L : Env) : lstE fs L = (argsE fs L).bind fun ds => .ok (.own ds) := rfl
@[simp] theorem valF_d (f : Env → R PD) (L : Env) : valF f L = (f L).bind valD := rfl
@[simp] theorem valD_d (d : PD) : valD d = .ok (.val d) := rfl
@[simp] theorem fzE_d (f : Env → R D) (L : Env) : fzE f L = (f L).bind fz := rfl
@[simp] theorem fz_v (d : PD) : fz (.val d) = .ok d := rfl
@[simp] theorem fz_o (ds : List PD) : fz (.own ds) = .ok (.list ds) := rfl
@[simp] theorem bvE_d (f : Env → R Bool) (L : Env) : bvE f L = bV (f L) := rfl
@[simp] theorem bV_ok (b : Bool) : bV (.ok b) = .ok (.bool b) := rfl
@[simp] theorem asB_b (b : Bool) : asB (.bool b) = .ok b := rfl
@[simp] theorem notT_d (f : Env → R Bool) (L : Env) : notT f L = (f L).bind fun b => .ok (!b) := rfl
@[simp] theorem andT_d (f g : Env → R Bool) (L : Env) : andT f g L = (f L).bind fun b => if b = true then g L else .ok false := rfl
@[simp] theorem orT_d (f g : Env → R Bool) (L : Env) : orT f g L = (f L).bind fun b => if b = true then .ok true else g L := rfl
@[simp] theorem andV_d (f g : Env → R PD) (L : Env) : andV f g L = (f L).bind fun d => (asB d).bind fun b => if b = true then g L else .ok (.bool false) := rfl
@[simp] theorem orV_d (f g : Env → R PD) (L : Env) : orV f g L = (f L).bind fun d => (asB d).bind fun b => if b = true then .ok (.bool true) else g L := rfl
@[simp] theorem notV_d (f : Env → R PD) (L : Env) : notV f L = (f L).bind fun d => (asB d).bind fun b => .ok (.bool (!b)) := rfl
@[simp] theorem iteE_d {α : Type} (t : Env → R Bool) (f g : Env → R α) (L : Env) : iteE t f g L = (t L).bind fun b => if b = true then f L else g L := rfl
@[simp] theorem callE_d (fc : List PD → R D) (fs : Env → R (List PD)) (L : Env) : callE fc fs L = (fs L).bind fc := rfl
@[simp] theorem callS_d (fc : List PD → R D) (fs : Env → R (List PD)) (L : Env) : callS fc fs L = (fs L).bind fun ds => (fc ds).bind plainD := rfl
@[simp] theorem plain_i (i : Int) : plainD (.val (.int i)) = .ok (.int i) := cif_pos rfl
@[simp] theorem plain_b (i : Bool) : plainD (.val (.bool i)) = .ok (.bool i) := cif_pos rfl
@[simp] theorem plain_n : plainD (.val .none) = .ok .none := cif_pos rfl
@[simp] theorem plain_s (i : Str) : plainD (.val (.str i)) = .ok (.str i) := cif_pos rfl
@[simp] theorem skip_d (L : Env) : skipS L = .next L := rfl
@[simp] theorem set_d (i : Nat) (f : Env → R D) (L : Env) : setS i f L = (f L).out fun d => .next (setE L i (some d)) := rfl
@[simp] theorem if_d (t : Env → R Bool) (g h : Env → Out) (L : Env) : ifS t g h L = (t L).out fun b => if b = true then g L else h L := rfl
@[simp] theorem ret_d (f : Env → R D) (L : Env) : retS f L = (f L).out fun d => .ret d := rfl
@[simp] theorem retN_d (L : Env) : retN L = .ret (.val .none) := rfl
@[simp] theorem raise_d (c : Str) (L : Env) : raiseS c L = .exc c := rfl
def retO : Option D → Out
  | some d => .ret d
  | none => .bad
@[simp] theorem retO_s (d : D) : retO (some d) = .ret d := rfl
@[simp] theorem retV_d (i : Nat) (L : Env) : retV i L = retO (getE L i) := by
  unfold retV retO
  cases getE L i <;> rfl
def Out.thn : Out → (Env → Out) → Out
  | .next L', h => h L'
  | .ret d, _ => .ret d
  | .brk L', _ => .brk L'
  | .ct L', _ => .ct L'
  | .exc c, _ => .exc c
  | .bad, _ => .bad
@[simp] theorem seq_d (g h : Env → Out) (L : Env) : seqS g h L = (g L).thn h := by
  unfold seqS Out.thn
  cases g L <;> rfl
@[simp] theorem thn_n (L : Env) (h : Env → Out) : (Out.next L).thn h = h L := rfl
@[simp] theorem thn_r (d : D) (h : Env → Out) : (Out.ret d).thn h = .ret d := rfl
@[simp] theorem thn_e (c : Str) (h : Env → Out) : (Out.exc c).thn h = .exc c := rfl
@[simp] theorem thn_ite (c : Prop) [Decidable c] (a b : Out) (h : Env → Out) : (if c then a else b).thn h = if c then a.thn h else b.thn h := by split <;> rfl
@[simp] theorem fin_n (L : Env) : finish (.next L) = .ok (.val .none) := rfl
@[simp] theorem fin_r (d : D) : finish (.ret d) = .ok d := rfl
@[simp] theorem fin_e (c : Str) : finish (.exc c) = .exc c := rfl
@[simp] theorem frz_o (L : Env) (i : Nat) : frzS i L = match getE L i with
  | some (.own ds) => .next (setE L i (some (.val (.list ds))))
  | some (.val d) => .next L
  | _ => .bad := rfl
def pushO (L : Env) (i : Nat) (r : R PD) : Option D → Out
  | some (.own ds) => r.out fun d => cif (ds.length < 1000000) (.next (setE L i (some (.own (ds ++ [d]))))) .bad
  | _ => .bad
@[simp] theorem push_d (i : Nat) (f : Env → R PD) (L : Env) : pushS i f L = pushO L i (f L) (getE L i) := by
  unfold pushS pushO
  rfl
@[simp] theorem pushO_o (L : Env) (i : Nat) (d : PD) (ds : List PD) (h : ds.length < 1000000) : pushO L i (.ok d) (some (.own ds)) = .next (setE L i (some (.own (ds ++ [d])))) := cif_pos h
@[simp] theorem forL_d (f : Env → R PD) (tg : PD → Env → R Env) (g : Env → Out) (L : Env) : forL f tg g L = (f L).out fun d => match d with | .list ds => forE tg g ds L | _ => .bad := rfl
@[simp] theorem forT_d (f : Env → R PD) (tg : PD → Env → R Env) (g : Env → Out) (L : Env) : forT f tg g L = (f L).out fun d => match d with | .tuple ds => forE tg g ds L | _ => .bad := rfl
@[simp] theorem forR_d (f : Env → R (List PD)) (tg : PD → Env → R Env) (g : Env → Out) (L : Env) : forR f tg g L = ((f L).bind rngP).out fun ds => forE tg g ds L := rfl
theorem forE_n (tg : PD → Env → R Env) (g : Env → Out) (L : Env) : forE tg g [] L = .next L := rfl
/-- what follows a turn -/
def Out.turn : Out → (Env → Out) → Out
  | .next L', k => k L'
  | .ct L', k => k L'
  | .brk L', _ => .next L'
  | .ret d, _ => .ret d
  | .exc c, _ => .exc c
  | .bad, _ => .bad
@[simp] theorem turn_n (L : Env) (k : Env → Out) : (Out.next L).turn k = k L := rfl
@[simp] theorem turn_r (d : D) (k : Env → Out) : (Out.ret d).turn k = .ret d := rfl
@[simp] theorem turn_e (c : Str) (k : Env → Out) : (Out.exc c).turn k = .exc c := rfl
@[simp] theorem turn_ite (c : Prop) [Decidable c] (a b : Out) (h : Env → Out) : (if c then a else b).turn h = if c then a.turn h else b.turn h := by split <;> rfl
theorem forE_c (tg : PD → Env → R Env) (g : Env → Out) (d : PD) (ds : List PD) (L : Env) : forE tg g (d :: ds) L = (tg d L).out fun L1 => (g L1).turn fun L' => forE tg g ds L' := by
  show (tg d L).out _ = _
  congr 1
  funext L1
  cases g L1 <;> rfl
@[simp] theorem tgN_d (i : Nat) (d : PD) (L : Env) : tgN i d L = .ok (setE L i (some (.val d))) := rfl
@[simp] theorem tgT_d (i j : Nat) (a b : PD) (L : Env) : tgT i j (.tuple [a, b]) L = .ok (setE (setE L i (some (.val a))) j (some (.val b))) := rfl
theorem while_z (t : Env → R Bool) (g : Env → Out) (L : Env) : whileE t g 0 L = .bad := rfl
theorem while_s (t : Env → R Bool) (g : Env → Out) (n : Nat) (L : Env) : whileE t g (n + 1) L = (t L).out fun b => if b = true then (g L).turn fun L' => whileE t g n L' else .next L := by
  show (t L).out _ = _
  congr 1
  funext b
  cases g L <;> rfl
@[simp] theorem add_ii (i j : Int) : addP (.int i) (.int j) = .ok (.int (i + j)) := rfl
@[simp] theorem sub_ii (i j : Int) : subP (.int i) (.int j) = .ok (.int (i - j)) := rfl
@[simp] theorem neg_i (i : Int) : negP (.int i) = .ok (.int (-i)) := rfl
@[simp] theorem abs_i (i : Int) : absP (.int i) = .ok (.int (i.natAbs : Int)) := by
  show R.ok (PyData.int (if i < 0 then -i else i)) = _
  congr 2
  split <;> omega
theorem mul_ii {i j : Int} (h : mulOk i j) : mulP (.int i) (.int j) = .ok (.int (i * j)) := cif_pos h
theorem div_ii {i j : Int} (h : 0 < j ∧ j < 1073741824) : divP (.int i) (.int j) = .ok (.int (i / j)) := cif_pos h
theorem mod_ii {i j : Int} (h : 0 < j) : modP (.int i) (.int j) = .ok (.int (i % j)) := cif_pos h
@[simp] theorem lt_ii (i j : Int) : ltP (.int i) (.int j) = .ok (decide (i < j)) := rfl
@[simp] theorem le_ii (i j : Int) : leP (.int i) (.int j) = .ok (decide (i ≤ j)) := rfl
@[simp] theorem gt_ii (i j : Int) : gtP (.int i) (.int j) = .ok (decide (j < i)) := rfl
@[simp] theorem ge_ii (i j : Int) : geP (.int i) (.int j) = .ok (decide (j ≤ i)) := rfl
@[simp] theorem sh_i (i : Int) : SeqAt.shaped (.int i) = true := rfl
@[simp] theorem sh_b (i : Bool) : SeqAt.shaped (.bool i) = true := rfl
@[simp] theorem sh_n : SeqAt.shaped .none = true := rfl
@[simp] theorem ev_ii (i j : Int) : PyData.eqv (.int i) (.int j) = decide (i = j) := by simp [PyData.eqv]; rfl
@[simp] theorem ev_bb (i j : Bool) : PyData.eqv (.bool i) (.bool j) = decide (i = j) := by simp [PyData.eqv]; rfl
@[simp] theorem eq_ii (i j : Int) : eqP (.int i) (.int j) = .ok (decide (i = j)) := by rw [← ev_ii]; exact cif_pos ⟨rfl, rfl⟩
@[simp] theorem eq_bb (i j : Bool) : eqP (.bool i) (.bool j) = .ok (decide (i = j)) := by rw [← ev_bb]; exact cif_pos ⟨rfl, rfl⟩
@[simp] theorem ne_ii (i j : Int) : neP (.int i) (.int j) = .ok (!decide (i = j)) := by rw [← ev_ii]; exact cif_pos ⟨rfl, rfl⟩
@[simp] theorem isN_d (d : PD) : isNP d .none = .ok (isNon d) := by cases d <;> rfl
@[simp] theorem notN_d (d : PD) : notNP d .none = .ok (!isNon d) := by cases d <;> rfl
@[simp] theorem isNon_n : isNon .none = true := rfl
@[simp] theorem isNon_l (ds : List PD) : isNon (.list ds) = false := rfl
@[simp] theorem isNon_t (ds : List PD) : isNon (.tuple ds) = false := rfl
@[simp] theorem isB_bb (a b : Bool) : isBP (.bool a) (.bool b) = .ok (decide (a = b)) := rfl
@[simp] theorem len_l (ds : List PD) : lenP (.list ds) = .ok (.int ds.length) := rfl
@[simp] theorem len_t (ds : List PD) : lenP (.tuple ds) = .ok (.int ds.length) := rfl
@[simp] theorem len_scr (ns : List Int) : lenP (scr ns) = .ok (.int ns.length) := by
  show R.ok (PyData.int ((ns.map PyData.int).length : Int)) = _
  rw [List.length_map]
@[simp] theorem list_l (ds : List PD) : listP (.list ds) = .ok (.own ds) := rfl
@[simp] theorem ix_l (ds : List PD) (i : Int) : ixP (.list ds) (.int i) = ofO id (atI ds i) := rfl
@[simp] theorem ix_t (ds : List PD) (i : Int) : ixP (.tuple ds) (.int i) = ofO id (atI ds i) := rfl
@[simp] theorem ix_scr (ns : List Int) (i : Int) : ixP (scr ns) (.int i) = ofO id (atI (ns.map PyData.int) i) := rfl
@[simp] theorem ofO_s {α : Type} (f : α → PD) (a : α) : ofO f (some a) = .ok (f a) := rfl
theorem at_nat {α : Type} {xs : List α} {j : Nat} (h : j < xs.length) : atI xs (j : Int) = some xs[j] := atI_nat (List.getElem?_eq_getElem h)
@[simp] theorem at2_0 {α : Type} (a b : α) : atI [a, b] 0 = some a := rfl
@[simp] theorem at2_1 {α : Type} (a b : α) : atI [a, b] 1 = some b := rfl
theorem at_map' {α β : Type} (f : α → β) (xs : List α) (i : Int) : atI (xs.map f) i = (atI xs i).map f := by
  unfold atI
  rw [List.length_map]
  cases ixN xs.length i with
  | none => rfl
  | some j =>
    show (xs.map f)[j]? = (xs[j]?).map f
    rw [List.getElem?_map]
@[simp] theorem isi_bb (b : Bool) : isiP "bool" (.bool b) = .ok (.bool true) := by
  show isiQ "bool" "bool" = _
  unfold isiQ
  rw [show kitB "bool" "bool" = some true by decide +kernel]
end
end Px
namespace Px
open PySem L2
section
variable {P : Program} {w : World} {K : PySem.W.Frag} {mg : Str → Option Value} {base : Heap}
theorem ka_init (Hs : HasM K "__init__" "Book.__init__" s_m___init__ ["self", "many"]) (Tb : BkTxt K) : MetOk P w K mg base "__init__" ["self", "many"] 1 (spInit K) := by
  obtain ⟨C, a, fd, hC, cl, hm, Fn, hb⟩ := Hs.ex
  obtain ⟨C', hC', _, nM, nH⟩ := Tb.ex
  rw [hC] at hC'
  cases hC'
  refine ⟨C, a, fd, hC, cl, hm, .all hb, Fn.okX sc_m___init__ (fun vs H Q E h => ?_) (fun cdv A outer s H vs Q E hr h => ?_)⟩
  · obtain ⟨_, _, _, _, _, rfl, _⟩ := h
    rfl
  · obtain ⟨C', p, dx, n, hC', rfl, hp, k⟩ := h
    rw [hC] at hC'
    cases hC'
    refine ⟨_, pss_cons (ps_fld (pv 0) (pv 1) rfl) (pss_one (ps_fld (pv 0) (pe_lst pa_nil) rfl)), ?_⟩
    refine ⟨_, rfl, _, rfl, p, C, dx, [], rfl, hp, cl, nM, by decide, ?_⟩
    refine ⟨by decide, fun h nh => ⟨_, rfl, p, C, dx, putF "many" (.int n) [], rfl, ?_, cl, nH, ?_, ?_⟩⟩
    · have ne : p ≠ h := fun z => by
        subst z
        rw [upd_same] at nh
        cases nh
      rw [upd_ne ne]
      exact upd_same
    · show 1 < 1000
      decide
    · have ne : p ≠ h := fun z => by
        subst z
        rw [upd_same] at nh
        cases nh
      have nH' : H h = none := by
        rw [upd_ne ne.symm] at nh
        exact nh
      refine k h _ nH' ⟨⟨C, dx, hC, ?_⟩, ?_⟩ fun b o hb e => ?_
      · rw [upd_same]
        have pf : putF ("held" : Str) (V.ref h) (putF ("many" : Str) (V.int n) []) = ([("many", V.int n), ("held", V.ref h)] : List (Str × V)) := by
          show putF ("held" : Str) (V.ref h) [(("many" : Str), V.int n)] = _
          unfold putF
          rw [if_neg (by decide)]
          rfl
        rw [pf]
      · rw [upd_ne ne.symm]
        exact upd_same
      · have nbh : b ≠ h := fun z => by
          subst z
          rw [nH'] at e
          cases e
        rw [upd_ne hb, upd_ne nbh, upd_ne hb]
        exact e
theorem t_add_ok {n i : Int} {b : Option D} {d : PD} (h : litOk n i) (hd : manyP d = .ok (.int n)) : orT (op2 eqP (varB 2) (constE (.int 0))) (op2 gtP (op1 absP (varB 2)) (op1 manyP (varB 0))) [some (.val d), b, some (.val (.int i))] = .ok false := by
  have e1 : (op2 eqP (varB 2) (constE (.int 0))) [some (.val d), b, some (.val (.int i))] = .ok false := by
    show eqP (.int i) (.int 0) = _
    have e : eqP (.int i) (.int 0) = .ok (PyData.eqv (.int i) (.int 0)) := cif_pos ⟨rfl, rfl⟩
    rw [e]
    have : PyData.eqv (.int i) (.int 0) = decide (i = 0) := by simp [PyData.eqv]; rfl
    rw [this, decide_eq_false h.1]
  have e2 : (op2 gtP (op1 absP (varB 2)) (op1 manyP (varB 0))) [some (.val d), b, some (.val (.int i))] = .ok false := by
    show ((manyP d).bind fun y => gtP (.int (if i < 0 then -i else i)) y) = _
    rw [hd]
    show R.ok (decide (n < (if i < 0 then -i else i))) = _
    rw [decide_eq_false]
    have := h.2
    split <;> omega
  unfold orT
  rw [e1]
  show (if false = true then R.ok true else (op2 gtP (op1 absP (varB 2)) (op1 manyP (varB 0))) _) = _
  rw [if_neg (by decide), e2]
theorem ka_add (Hs : HasM K "add" "Book.add" s_m_add ["self", "say"]) (Bl : Blt mg) (Tb : BkTxt K) {t_ROOM : Tok} (c_ROOM : mg "ROOM" = some (.int 400 t_ROOM)) (e_BadSay : ExcAt K mg "BadSay") (e_FullBook : ExcAt K mg "FullBook") : MetOk P w K mg base "add" ["self", "say"] 1 (spAddC K) := by
  obtain ⟨Cb, a, fd, hC, cl, hm, Fn, hb⟩ := Hs.ex
  obtain ⟨C', hC', _, nM, nH⟩ := Tb.ex
  rw [hC] at hC'
  cases hC'
  refine ⟨Cb, a, fd, hC, cl, hm, .all hb, Fn.okX sc_m_add (fun vs H Q E h => ?_) (fun cdv A outer s H vs Q E hr h => ?_)⟩
  · obtain ⟨_, _, _, _, _, _, _, _, rfl, _⟩ := h
    rfl
  · obtain ⟨p, h, n, xs, ds, v, i, j, rfl, bk, hx, hv, oi, oj, few, k⟩ := h
    have tk : Takes (cxOf (L2.CX P w) P w K mg base N_m_add "Book.add" (defScope s_m_add) a cdv A outer s H E) (fun cls d _ H => E cls d H) := takes_of rfl rfl rfl rfl
    have C : Ctx (cxOf (L2.CX P w) P w K mg base N_m_add "Book.add" (defScope s_m_add) a cdv A outer s H E) E 0 := ⟨hr, passes_call tk fun _ _ _ _ h => h, rfl, passes_of rfl⟩
    refine ⟨_, pss_cons (ps_for C.own C.calm (pi_tup (pv 1)) (pg_name (i := 2) sc_m_add.nd rfl (by first | exact .inl rfl | exact .inr rfl)) (pss_one (ps_if (xt_w (xw_or (E := E) (xt_cmp (op_eqD C.room.units) r_eq (xb_var 2) (xb_of (xe_int)) (nomark _)) (xw_or1 (xt_cmp op_gt r_cmp (xb_of (xe_B call_abs r_abs (by rfl) Bl.abs (by decide +kernel) (xb_var 2))) (xb_of (xe_many Tb (xb_var 0))) (nomark _))))) (xs_one (xs_raiseE rfl tk e_BadSay)) pss_nil)))
      (pss_cons (ps_if (xt_cmp (E := E) op_ge r_cmp (xb_of (xe_B call_len r_len (by rfl) Bl.len (by decide +kernel) (xb_of (xe_held Tb (xb_var 0))))) (xb_of (xe_globI (by rfl) c_ROOM)) (nomark _))
        (xs_one (xs_raiseE rfl tk e_FullBook)) pss_nil)
      (pss_one (ps_expr (pe_bm PySem.F.plainAttrs_list PySem.F.slot_list_append PySem.F.type_list_append mt_append (pe_fld (pv 0) rfl) (pa_cons (xe_tup (E := E) (xa_cons (xe_ix (xb_var 1) (xb_of xe_int)) (xa_cons (xe_ix (xb_var 1) (xb_of xe_int)) xa_nil))) pa_nil))))), ?_⟩
    have at3 : ∀ {H' : Hp} {z : V} {l : Int}, Same H H' → z = .int l → AllV K H' [some (.ref p), some v, some z] [some (.val (bkD n ds)), some (.val (.tuple [.int i, .int j])), some (.val (.int l))] := fun {H' z l} sH ez => by
      subst ez
      exact .v (dp_mono sH _ _ (bk.dq hx)) (.v (dp_mono sH _ _ hv) (.v (.int l) allV_nil))
    obtain ⟨t, ev, ht⟩ : ∃ t, v = .ref t ∧ H t = some (.tup [.int i, .int j]) := by
      cases hv with
      | tup q a =>
        cases a with
        | cons a1 a2 =>
          cases a2 with
          | cons a2 a3 =>
            cases a3
            cases a1
            cases a2
            exact ⟨_, rfl, q⟩
    refine ⟨v, rfl, t, ev, ⟨_, SqT.of ht⟩, for_tup (xs := [.int i, .int j]) (fun m σ' H' => ∃ x, σ' = [some (.ref p), some v, x] ∧ Same H H' ∧ (m = 2 → x = some (.int j))) ⟨none, rfl, Same.refl _, fun z => by cases z⟩ (fun _ _ _ _ ⟨_, _, sH, _⟩ => SqT.of (sH _ _ ht)) (fun m y σ' H' hy ⟨x, es, sH, _⟩ => ?_) (fun σ' H' ⟨x, es, sH, ex⟩ => ?_)⟩
    · subst es
      have one : ∃ l : Int, y = .int l ∧ litOk n l ∧ (m + 1 = 2 → l = j) := by
        cases m with
        | zero =>
          cases hy
          exact ⟨i, rfl, oi, fun z => by cases z⟩
        | succ m =>
          cases m with
          | zero =>
            cases hy
            exact ⟨j, rfl, oj, fun _ => rfl⟩
          | succ m => cases hy
      obtain ⟨l, ey, ol, el⟩ := one
      refine tt_val (at3 (l := l) sH ey) (t_add_ok ol rfl) fun H1 s1 => ?_
      rw [if_neg Bool.false_ne_true]
      exact ⟨some y, rfl, sH.trans s1, fun e => by rw [ey, el e]⟩
    · have ex := ex rfl
      subst ex
      subst es
      refine tt_val (at3 sH rfl) (b := false) ?_ fun H1 s1 => ?_
      · show R.ok (decide ((400 : Int) ≤ (ds.length : Int))) = _
        rw [decide_eq_false (by omega)]
      rw [if_neg Bool.false_ne_true]
      have sH1 := sH.trans s1
      obtain ⟨⟨C2, dx, hC2, hp⟩, hl⟩ := bk.mono sH1
      rw [hC] at hC2
      cases hC2
      refine ⟨_, rfl, p, Cb, dx, _, _, rfl, hp, cl, nH, lk_held, .inl ⟨rfl, _, SqL.of hl⟩, ?_⟩
      refine te_val (d := .tuple [.int i, .int j]) (at3 sH1 rfl) rfl fun u H2 s2 hu => ?_
      refine ⟨h, xs, u, rfl, rfl, s2 _ _ hl, ?_, ?_⟩
      · have := dpAll_len hx
        rw [this]
        exact Nat.lt_trans few (by decide)
      · have kp : ∀ b o, b ≠ h → H b = some o → upd H2 h (.lst (xs ++ [u])) b = some o := fun b o nb e => by
          rw [upd_ne nb]
          exact s2 _ _ (sH1 _ _ e)
        refine k u _ upd_same (dq_pair hu fun b ys q => ?_) kp
        have nb : b ≠ h := fun z => by
          subst z
          rw [s2 _ _ hl] at q
          cases q
        rw [upd_ne nb]
        exact q
theorem ka_back (Hs : HasM K "back" "Book.back" s_m_back ["self"]) (Bl : Blt mg) (Tb : BkTxt K) (e_EmptyBook : ExcAt K mg "EmptyBook") : MetOk P w K mg base "back" ["self"] 1 (spBackC K) := by
  obtain ⟨Cb, a, fd, hC, cl, hm, Fn, hb⟩ := Hs.ex
  obtain ⟨C', hC', _, nM, nH⟩ := Tb.ex
  rw [hC] at hC'
  cases hC'
  refine ⟨Cb, a, fd, hC, cl, hm, .all hb, Fn.okX sc_m_back (fun vs H Q E h => ?_) (fun cdv A outer s H vs Q E hr h => ?_)⟩
  · obtain ⟨_, _, _, _, _, _, rfl, _⟩ := h
    rfl
  · obtain ⟨p, h, n, xs, x, ds, rfl, bk, hx, k⟩ := h
    have tk : Takes (cxOf (L2.CX P w) P w K mg base N_m_back "Book.back" (defScope s_m_back) a cdv A outer s H E) (fun cls d _ H => E cls d H) := takes_of rfl rfl rfl rfl
    have C : Ctx (cxOf (L2.CX P w) P w K mg base N_m_back "Book.back" (defScope s_m_back) a cdv A outer s H E) E 0 := ⟨hr, passes_call tk fun _ _ _ _ h => h, rfl, passes_of rfl⟩
    refine ⟨_, pss_cons (ps_if (xt_cmp (E := E) (op_eqD C.room.units) r_eq (xb_of (xe_B call_len r_len (by rfl) Bl.len (by decide +kernel) (xb_of (xe_held Tb (xb_var 0))))) (xb_of (xe_int)) (nomark _))
        (xs_one (xs_raiseE rfl tk e_EmptyBook)) pss_nil)
      (pss_one (ps_ret (pe_bm0 PySem.F.plainAttrs_list PySem.F.slot_list_pop PySem.F.type_list_pop mt_pop (pe_fld (pv 0) rfl)))), ?_⟩
    have a0 : AllV K H (L2.start N_m_back [.ref p]) [some (.val (bkD n ds))] := .v (bk.dq hx) allV_nil
    refine tt_val a0 (b := false) ?_ fun H1 s1 => ?_
    · show eqP (.int (ds.length : Int)) (.int 0) = _
      have := dpAll_len hx
      rw [List.length_append, List.length_singleton] at this
      rw [eq_ii, decide_eq_false (by omega)]
    rw [if_neg Bool.false_ne_true]
    obtain ⟨⟨C2, dx, hC2, hp⟩, hl⟩ := bk.mono s1
    rw [hC] at hC2
    cases hC2
    refine ⟨_, rfl, p, Cb, dx, _, _, rfl, hp, cl, nH, lk_held, .inl ⟨rfl, _, SqL.of hl⟩, h, xs ++ [x], x, rfl, rfl, hl, ?_, ?_⟩
    · rw [List.length_append, List.length_singleton, Nat.add_sub_cancel, List.getElem?_append_right (Nat.le_refl _), Nat.sub_self]
      rfl
    · rw [List.dropLast_concat]
      exact k _ upd_same fun b o nb e => by
        rw [upd_ne nb]
        exact s1 _ _ e
end
end Px
namespace Px
open PySem L2
noncomputable section
def tBook (K : PySem.W.Frag) (i : Nat) : TE := fun σ H Q => ∃ n : Int, σ[i]? = some (some (.int n)) ∧ ∀ p h H', H p = none → H h = none → Same H H' → BkAt K H' p h n [] → Q (.ref p) H'
def tAddC (K : PySem.W.Frag) (E : XK) (i : Nat) (te : TE) : TE := fun σ H Q => ∃ (p h : Addr) (n : Int) (xs : List V), σ[i]? = some (some (.ref p)) ∧ BkAt K H p h n xs ∧ te σ H fun v H1 => spAddC K [.ref p, v] H1 Q E
def tBackC (K : PySem.W.Frag) (i : Nat) : TE := fun σ H Q => ∃ (p h : Addr) (n : Int) (xs : List V) (x : V) (ds : List PD), σ[i]? = some (some (.ref p)) ∧ BkAt K H p h n (xs ++ [x]) ∧ DqAll K H (xs ++ [x]) ds ∧
  ∀ H', H' h = some (.lst xs) → (∀ c o, c ≠ h → H c = some o → H' c = some o) → Q x H'
section
variable {X : Cx} {E : XK} {pos apos p q : Pos}
theorem pe_book {k i : Nat} {x : Str} (C : Ctx X E k) (Tm : BkMk X.K X.mg) (I : MetOk X.prog X.w X.K X.mg X.base "__init__" ["self", "many"] 1 (spInit X.K)) (hk : 2 ≤ k) (hN : X.N[i]? = some x := by rfl) (hg : Gl X "Book" := by rfl) (hv : Vis X.env.scope x := by first | exact .inl rfl | exact .inr rfl)
    (hd : (x == ("__debug__" : Str)) = false := by decide) (hcd : (x == ("__classdict__" : Str)) = false := by decide) (he : starEach [.Name x q] X.env = (false, eval (.Name x q) X.env) :: starEach [] X.env := by rfl) (hpl : (backTo pos (starEach [] X.env)).any (·.1) = false := by rfl) :
    PE X (.Call (.Name "Book" p) [.Name x q] [] pos) (tBook X.K i) := by
  obtain ⟨Cb, hC, gC, mk, kp, cl, nM, nH⟩ := Tm.ex
  obtain ⟨C2, f, fd, hC2, _, hm, hb, F⟩ := I.ex
  rw [hC] at hC2
  cases hC2
  refine peW (pe_make ⟨mk, hm.at_, hm.fn, kp⟩ F (C.room.mono hk) hg gC hb .nil C.pass (pa_cons (pe_var (i := i) hN hv hd hcd) pa_nil he) (by decide) he hpl) fun σ H Q ⟨n, e, kk⟩ => ?_
  refine ⟨_, e, fun y dx ny nd ne => ?_⟩
  refine ⟨Cb, y, dx, n, hC, rfl, upd_same, fun h H' nh bk keep => ⟨rfl, ?_⟩⟩
  have hy : h ≠ y := fun z => by
    subst z
    rw [upd_same] at nh
    cases nh
  rw [upd_ne hy] at nh
  have hdx : h ≠ dx := fun z => by
    subst z
    rw [upd_same] at nh
    cases nh
  rw [upd_ne hdx] at nh
  refine kk y h H' ny nh (fun b o eb => ?_) bk
  have by_ : b ≠ y := ne_of_none eb ny
  refine keep b o by_ ?_
  rw [upd_ne by_, upd_ne (ne_of_none eb nd)]
  exact eb
theorem pe_addC {k i : Nat} {x : Str} {e : Expr} {te : TE} {pl : Sem Bool} (C : Ctx X E k) (A : MetOk X.prog X.w X.K X.mg X.base "add" ["self", "say"] 1 (spAddC X.K)) (hk : 1 ≤ k) (ha : PE X e te) (hN : X.N[i]? = some x := by rfl) (hv : Vis X.env.scope x := by first | exact .inl rfl | exact .inr rfl)
    (hd : (x == ("__debug__" : Str)) = false := by decide) (hcd : (x == ("__classdict__" : Str)) = false := by decide) (he : starEach [e] X.env = (false, eval e X.env) :: starEach [] X.env := by rfl) (hpl : (backTo pos (starEach [] X.env)).any (·.1) = false := by rfl)
    (ht : eval (.Call (.Attribute (.Name x q) "add" apos) [e] [] pos) X.env = (do
      let ov ← eval (.Name x q) X.env
      standAt apos.atName
      let (f, first) ← holding [ov] (getMethod ov "add" pl)
      callWith pos f first (backTo pos (starEach [e] X.env)) (backToKw pos (keywordEach [] X.env))) := by rfl) :
    PE X (.Call (.Attribute (.Name x q) "add" apos) [e] [] pos) (tAddC X.K E i te) := by
  obtain ⟨Cb, f, fd, hC, cl, hm, hb, F⟩ := A.ex
  refine peW (pe_meth (pe_var (i := i) hN hv hd hcd) cl hm F (C.room.mono hk) hb .nil C.pass (pa_cons ha pa_nil he) he hpl ht) fun σ H Q ⟨p, h, n, xs, es, bk, t⟩ => ?_
  obtain ⟨⟨C2, dx, hC2, hp⟩, _⟩ := bk
  rw [hC] at hC2
  cases hC2
  exact ⟨_, es, p, dx, _, rfl, hp, lk_no (by decide) (by decide), t⟩
theorem pe_backC {k i : Nat} {x : Str} {pl : Sem Bool} (C : Ctx X E k) (A : MetOk X.prog X.w X.K X.mg X.base "back" ["self"] 1 (spBackC X.K)) (hk : 1 ≤ k) (hN : X.N[i]? = some x := by rfl) (hv : Vis X.env.scope x := by first | exact .inl rfl | exact .inr rfl)
    (hd : (x == ("__debug__" : Str)) = false := by decide) (hcd : (x == ("__classdict__" : Str)) = false := by decide)
    (ht : eval (.Call (.Attribute (.Name x q) "back" apos) [] [] pos) X.env = (do
      let ov ← eval (.Name x q) X.env
      standAt apos.atName
      let (f, first) ← holding [ov] (getMethod ov "back" pl)
      callWith pos f first (backTo pos (starEach [] X.env)) (backToKw pos (keywordEach [] X.env))) := by rfl) :
    PE X (.Call (.Attribute (.Name x q) "back" apos) [] [] pos) (tBackC X.K i) := by
  obtain ⟨Cb, f, fd, hC, cl, hm, hb, F⟩ := A.ex
  refine peW (pe_meth0 (pe_var (i := i) hN hv hd hcd) cl hm F (C.room.mono hk) hb .nil C.pass ht) fun σ H Q ⟨p, h, n, xs, x, ds, es, bk, hx, kk⟩ => ?_
  obtain ⟨⟨C2, dx, hC2, hp⟩, hl⟩ := bk
  rw [hC] at hC2
  cases hC2
  exact ⟨_, es, p, dx, _, rfl, hp, lk_no (by decide) (by decide), p, h, n, xs, x, ds, rfl, ⟨⟨Cb, dx, hC, hp⟩, hl⟩, hx, kk⟩
end
theorem bkTxt_of {K : PySem.W.Frag} {C : Addr} (a : PySem.W.nsIn K mainGlobals "Book" = some (some (.ref C))) (c : Cls K C) (m : PySem.W.findIn K (.ref C) "many" = some none) (h : PySem.W.findIn K (.ref C) "held" = some none) : BkTxt K := ⟨C, a, c, m, h⟩
theorem bkMk_of {K : PySem.W.Frag} {mg : Str → Option Value} {h : Heap} (KX : K.In h) (G : h.Ns mainGlobals mg) {C : Addr} (a : PySem.W.nsIn K mainGlobals "Book" = some (some (.ref C))) (c : Cls K C) (m : PySem.W.findIn K (.ref C) "many" = some none) (hd : PySem.W.findIn K (.ref C) "held" = some none) (mk : PySem.W.makesIn K C = true) (kp : PySem.W.keepIn K (.ref C) = true) : BkMk K mg :=
  ⟨C, a, PySem.W.mg_of KX G a, mk, kp, c, m, hd⟩
end
end Px
namespace Px
open PySem L2
noncomputable section
theorem ite_f {c : Bool} {A B : Prop} (hc : c = false) (h : B) : if c = true then A else B := by
  rw [hc, if_neg Bool.false_ne_true]
  exact h
theorem ite_t {c : Bool} {A B : Prop} (hc : c = true) (h : A) : if c = true then A else B := by
  rw [if_pos hc]
  exact h
theorem no_slot {K : PySem.W.Frag} {H : Hp} {x : Option V} : ∀ d, (none : Option D) = some d → ∃ pd y, d = .val pd ∧ x = some y ∧ Dq K H y pd := fun d e => by cases e
def isRef : V → Bool
  | .ref _ => true
  | _ => false
/-- lists of plain things left out -/
def refG (G : Hp) : Hp := fun a => match G a with
  | some (.lst xs) => if xs.all isRef = true then some (.lst xs) else none
  | o => o
theorem refG_sub {G : Hp} : Same (refG G) G := fun a o e => by
  unfold refG at e
  split at e
  · rename_i xs q
    split at e
    · rw [q]
      exact e
    · cases e
  · exact e
theorem refG_lst {G : Hp} {a : Addr} {xs : List V} (e : refG G a = some (.lst xs)) : xs.all isRef = true := by
  unfold refG at e
  split at e
  · rename_i ys q
    split at e
    · cases e
      assumption
    · cases e
  · rename_i h
    exact absurd e (h xs)
theorem refG_tup {G : Hp} {a : Addr} {xs : List V} (e : G a = some (.tup xs)) : refG G a = some (.tup xs) := by
  unfold refG
  rw [e]
theorem refG_ins {G : Hp} {a C dx : Addr} {fs : List (Str × V)} (e : G a = some (.ins C dx fs)) : refG G a = some (.ins C dx fs) := by
  unfold refG
  rw [e]
theorem refG_keep {G : Hp} {a : Addr} {xs : List V} (e : G a = some (.lst xs)) (h : xs.all isRef = true) : refG G a = some (.lst xs) := by
  unfold refG
  rw [e]
  exact if_pos h
theorem dq_refP {K : PySem.W.Frag} {G : Hp} {v : V} {d : PD} (t : tupI d = true) (h : Dq K G v d) : Dq K (refG G) v d ∧ isRef v = true := by
  unfold tupI at t
  split at t
  · refine ⟨dq_pair h fun b xs e => refG_tup e, ?_⟩
    cases h
    rfl
  · cases t
theorem dq_refA {K : PySem.W.Frag} {G : Hp} : ∀ {ds : List PD} {vs : List V}, ds.all tupI = true → DqAll K G vs ds → DqAll K (refG G) vs ds ∧ vs.all isRef = true
  | [], _, _, h => by
    cases h
    exact ⟨.nil, rfl⟩
  | d :: ds, _, t, h => by
    cases h with
    | cons a b =>
      rw [List.all_cons, Bool.and_eq_true] at t
      obtain ⟨a1, a2⟩ := dq_refP t.1 a
      obtain ⟨b1, b2⟩ := dq_refA t.2 b
      exact ⟨.cons a1 b1, by rw [List.all_cons, a2, b2]; rfl⟩
theorem dq_refL {K : PySem.W.Frag} {G : Hp} {v : V} {ds : List PD} (t : ds.all tupI = true) (h : Dq K G v (.list ds)) : Dq K (refG G) v (.list ds) := by
  cases h with
  | lst q a =>
    obtain ⟨a1, a2⟩ := dq_refA t a
    exact .lst (refG_keep q a2) a1
theorem dq_refB {K : PySem.W.Frag} {G : Hp} {v : V} {n : Int} {ds : List PD} (t : ds.all tupI = true) (h : Dq K G v (bkD n ds)) : Dq K (refG G) v (bkD n ds) := by
  cases h with
  | book c q l a =>
    obtain ⟨a1, a2⟩ := dq_refA t a
    exact .book c (refG_ins q) (refG_keep l a2) a1
/-- a list whose first thing is plain is none of these -/
theorem refG_no {G G2 : Hp} {y : Addr} {x : V} {xs : List V} (s : Same (refG G) G2) (e : G2 y = some (.lst (x :: xs))) (h : isRef x = false) : refG G y = none := by
  cases q : refG G y with
  | none => rfl
  | some o =>
    have e2 := s _ _ q
    rw [e] at e2
    cases e2
    have r := refG_lst q
    rw [List.all_cons, h] at r
    cases r
theorem flat_noref {K : PySem.W.Frag} {G : Hp} {v : V} {d : PD} (f : flatP d = true) (h : Dq K G v d) : isRef v = false := by
  cases h <;> first | rfl | cases f
section
variable {X : Cx} {E : XK} {pos p q p2 : Pos}
theorem pe_isVal {a Ca : Addr} {i : Nat} {n c s : Str} {no : List Str} (ei : ExcIs X.K X.mg c s no) (gC : X.mg c = some (.ref Ca)) (hc : IsR X a Ca) (hmi : X.mg "isinstance" = none) (hN : X.N[i]? = some n := by rfl) (hgi : Gl X "isinstance" := by rfl) (hv : Vis X.env.scope n := by first | exact .inl rfl | exact .inr rfl)
    (hd : (n == ("__debug__" : Str)) = false := by decide) (hcd : (n == ("__classdict__" : Str)) = false := by decide) (hgy : Gl X "ValueError" := by rfl) : PE X (.Call (.Name "isinstance" p) [.Name n q, .Name "ValueError" p2] [] pos) (tIs i a true) := by
  obtain ⟨C, S, g1, g2, ex, h1, h2, _, h4, h5, h6, h7, h8, h9, _⟩ := ei.ex
  rw [gC] at g1
  cases g1
  exact pe_isU hc h9 hmi ei.val hN hgi hv hd hcd hgy
/-- a def that keeps two promises: either may be taken -/
structure Two (P : Program) (w : World) (K : PySem.W.Frag) (mg : Str → Option Value) (base : Heap) (nm : Str) (ps : List Str) (k : Nat) (sp1 sp2 : Sp) : Prop where
  ex : ∃ (f : Addr) (d1 d2 : FuncData), mg nm = some (.ref f) ∧ PySem.W.keepIn K (.ref f) = true ∧ Binds K d1 ps [] ∧ Binds K d2 ps [] ∧ FnOk P w K mg base (L2.CX P w) k f d1 ps sp1 ∧ FnOk P w K mg base (L2.CX P w) k f d2 ps sp2
theorem pe_two {k j : Nat} {x : Str} {e : Expr} {es : List Expr} {ps : List Str} {sp1 sp2 : Sp} {t : TA} (C : Ctx X E k) (T : Two X.prog X.w X.K X.mg X.base x ps j sp1 sp2) (hj : j ≤ k) (ha : PA X (e :: es) t) (hg : Gl X x := by rfl) (hdb : (x == ("__debug__" : Str)) = false := by decide)
    (he : starEach (e :: es) X.env = (false, eval e X.env) :: starEach es X.env := by rfl) (hpl : (backTo pos (starEach es X.env)).any (·.1) = false := by rfl) :
    PE X (.Call (.Name x p) (e :: es) [] pos) (fun σ H Q => t σ H fun vs H1 => sp1 vs H1 Q E ∨ sp2 vs H1 Q E) := by
  obtain ⟨f, d1, d2, hm, hk, b1, b2, F1, F2⟩ := T.ex
  have room := C.room.mono hj
  refine ⟨fun pins s σ H Q I h => wpAny_Call_Name_kw (ld_glob I hg hm (PySem.W.callWith_K (h₀ := X.base)
    I.ok.mod.kin hk (thn (ha.run pos pins s σ H _ I h) fun us s1 ⟨vs, H1, I1, r, q⟩ => ⟨I1.kIn, ?_⟩) he hpl) hdb)⟩
  rcases q with q | q
  · exact run_fn F1 room b1 .nil C.pass I1 r (by rw [List.append_nil]; exact q)
  · exact run_fn F2 room b2 .nil C.pass I1 r (by rw [List.append_nil]; exact q)
end
end
end Px
namespace Px
open PySem L2
section
variable {P : Program} {w : World} {K : PySem.W.Frag} {mg : Str → Option Value} {base : Heap}
theorem kw_BadSay (Hs : Has K mg "_law_which" s__law_which ["e"]) (Bl : Blt mg) (x : ExcIs K mg "BadSay" "SayError" ["EmptyBook", "BadLine", "FullBook", "NoSetting"]) : WhAt P w K mg base "BadSay" [true, false, false, false, false, true] := by
  obtain ⟨a, fd, Fn, hm, hb⟩ := Hs.ex
  refine ⟨a, fd, hm, Fn.kp, .all hb, fun Ca gC => fnZ_of Fn sc__law_which fun cdv A outer s H z Q cls want => ?_⟩
  have hc : IsR (L2H.cxH CX0 P w K mg base N__law_which "_law_which" (defScope s__law_which) a cdv A outer s H E0 z) z.1 Ca := isR_of x gC List.mem_cons_self cls.2.1 cls.2.2
  exact ⟨_, which_body (i := 0) (j := 1) (by decide) sc__law_which.nd rfl (by first | exact .inl rfl | exact .inr rfl) (by first | exact .inl rfl | exact .inr rfl)
    (pe_isAny x gC hc Bl.isinstance true (by decide)) (pe_isAny x gC hc Bl.isinstance false (by decide)) (pe_isAny x gC hc Bl.isinstance false (by decide)) (pe_isAny x gC hc Bl.isinstance false (by decide)) (pe_isAny x gC hc Bl.isinstance false (by decide)) (pe_isVal x gC hc Bl.isinstance)
    rfl (by first | exact .inl rfl | exact .inr rfl) (by decide) (by decide) rfl rfl rfl rfl rfl rfl, rfl, by show 1 < 2; decide, want⟩
theorem kw_EmptyBook (Hs : Has K mg "_law_which" s__law_which ["e"]) (Bl : Blt mg) (x : ExcIs K mg "EmptyBook" "SayError" ["BadSay", "BadLine", "FullBook", "NoSetting"]) : WhAt P w K mg base "EmptyBook" [false, true, false, false, false, true] := by
  obtain ⟨a, fd, Fn, hm, hb⟩ := Hs.ex
  refine ⟨a, fd, hm, Fn.kp, .all hb, fun Ca gC => fnZ_of Fn sc__law_which fun cdv A outer s H z Q cls want => ?_⟩
  have hc : IsR (L2H.cxH CX0 P w K mg base N__law_which "_law_which" (defScope s__law_which) a cdv A outer s H E0 z) z.1 Ca := isR_of x gC List.mem_cons_self cls.2.1 cls.2.2
  exact ⟨_, which_body (i := 0) (j := 1) (by decide) sc__law_which.nd rfl (by first | exact .inl rfl | exact .inr rfl) (by first | exact .inl rfl | exact .inr rfl)
    (pe_isAny x gC hc Bl.isinstance false (by decide)) (pe_isAny x gC hc Bl.isinstance true (by decide)) (pe_isAny x gC hc Bl.isinstance false (by decide)) (pe_isAny x gC hc Bl.isinstance false (by decide)) (pe_isAny x gC hc Bl.isinstance false (by decide)) (pe_isVal x gC hc Bl.isinstance)
    rfl (by first | exact .inl rfl | exact .inr rfl) (by decide) (by decide) rfl rfl rfl rfl rfl rfl, rfl, by show 1 < 2; decide, want⟩
/-- what _law_asked's reading comes to, where it comes to anything -/
theorem asked_ok {F G : Hp} {E : XK} {Q : VK} {fa fb : List PD → R D} {ds : List PD} (h : OkC K mg E F G Q (askedF fa fb ds)) : ∃ n rows pile i j z c cs, ds = [bkD n rows, .list pile, .tuple [.int i, .int j]] ∧ rows.all tupI = true ∧ pile.all tupI = true ∧ flatP c = true ∧
    fa [bkD n rows, .tuple [.int i, .int j]] = .ok (.val (.tuple [.str z, .list (c :: cs)])) ∧ fb [bkD n rows, .list pile, .tuple [.int i, .int j], .tuple [.str z, .list (c :: cs)]] = .ok (.val (.bool true)) ∧ OkC K mg E F G Q (.ok (.val (.bool true))) := by
  unfold askedF at h
  split at h
  · rename_i n rows pile i j
    by_cases t : rows.all tupI = true ∧ pile.all tupI = true
    · rw [cif_pos t] at h
      unfold askedG at h
      split at h
      · rename_i z c cs e
        by_cases f : flatP c = true ∧ fb [bkD n rows, .list pile, .tuple [.int i, .int j], .tuple [.str z, .list (c :: cs)]] = .ok (.val (.bool true))
        · rw [cif_pos f] at h
          exact ⟨n, rows, pile, i, j, z, c, cs, rfl, t.1, t.2, f.1, e, f.2, h⟩
        · rw [cif_neg f] at h
          exact False.elim h
      · exact False.elim h
    · rw [cif_neg t] at h
      exact False.elim h
  · exact False.elim h
theorem AllV.lrF {K : PySem.W.Frag} {F G H : Hp} {σ : L2.St} {L : Env} (a : AllV K G σ L) (f : Same F H) (g : Same G H) (fg : ∀ b o, F b = some o → G b = none) : LR K F noHp G H σ L := by
  refine ⟨f, same_none, g, (fun _ _ _ => rfl), fg, (fun _ _ h => by cases h), fun i d e => ?_, a.len, fun i j b di dj e1 e2 m1 => ?_⟩
  · obtain ⟨pd, x, ed, es, h⟩ := a.at_ i d e
    subst ed
    exact ⟨x, es, h⟩
  · obtain ⟨pd, x, ed, _⟩ := a.at_ i di e1
    subst ed
    cases m1
theorem k__law_asked (Hs : Has K mg "_law_asked" s__law_asked ["book", "pile", "say"]) (h_m_ask : FctM P w K mg base "ask" ["self", "say"] 5 f_m_ask) (h__law_answers : Fct P w K mg base "_law_answers" ["book", "pile", "say", "found"] 6 f__law_answers) : Fct P w K mg base "_law_asked" ["book", "pile", "say"] 7 f__law_asked := by
  obtain ⟨a, fd, Fn, hm, hb⟩ := Hs.ex
  refine ⟨a, fd, hm, Fn.kp, .all hb, Fn.okX sc__law_asked (fun vs H Q E h => ?_) (fun cdv A outer s H vs Q E hr h => ?_)⟩
  · obtain ⟨F, G, ds, _, _, _, hd, hl, _⟩ := h
    rw [dpAll_len hd, hl]
  have tk : Takes (cxOf (L2.CX P w) P w K mg base N__law_asked "_law_asked" (defScope s__law_asked) a cdv A outer s H E) (fun cls d _ H => E cls d H) := takes_of rfl rfl rfl rfl
  have C : Ctx (cxOf (L2.CX P w) P w K mg base N__law_asked "_law_asked" (defScope s__law_asked) a cdv A outer s H E) E 6 := ⟨hr, passes_call tk fun _ _ _ _ h => h, rfl, passes_of rfl⟩
  refine ⟨_, pss_cons (ps_set (i := 3) sc__law_asked.nd rfl (Or.inl rfl) (xe_fz (E := E) (xf_callM C h_m_ask (by decide) f_m_ask_len (xe_var 0) (xa_cons (xe_var 2) xa_nil))))
    (pss_cons (ps_if (xt_not (xt_val (E := E) (xe_fz (xf_callF C h__law_answers (by decide) f__law_answers_len (xa_cons (xe_var 0) (xa_cons (xe_var 1) (xa_cons (xe_var 2) (xa_cons (xe_var 3) xa_nil)))))))) (pss_one (ps_ret pe_bl)) pss_nil)
    (pss_cons (ps_expr (pe_bm0 PySem.F.plainAttrs_list PySem.F.slot_list_clear PySem.F.type_list_clear mt_clear (xe_ix (E := E) (xb_var 3) (xb_of xe_int))))
    (pss_one (ps_ret (xf_callF (E := E) C h__law_answers (by decide) f__law_answers_len (xa_cons (xe_var 0) (xa_cons (xe_var 1) (xa_cons (xe_var 2) (xa_cons (xe_fz (xf_callM C h_m_ask (by decide) f_m_ask_len (xe_var 0) (xa_cons (xe_var 2) xa_nil))) xa_nil))))))))), ?_⟩
  obtain ⟨F, G, ds, f, g, fg, hd, hl, q⟩ := h
  obtain ⟨n, rows, pile, i, j, z, c, cs, rfl, t1, t2, fl, ea, eb, q⟩ := asked_ok q
  obtain ⟨v1, v2, v3, rfl, h1, h2, h3⟩ : ∃ v1 v2 v3, vs = [v1, v2, v3] ∧ Dq K G v1 (bkD n rows) ∧ Dq K G v2 (.list pile) ∧ Dq K G v3 (.tuple [.int i, .int j]) := by
    cases hd with
    | cons h1 hd =>
      cases hd with
      | cons h2 hd =>
        cases hd with
        | cons h3 hd =>
          cases hd
          exact ⟨_, _, _, rfl, h1, h2, h3⟩
  have k1 := dq_refB t1 h1
  have k2 := dq_refL t2 h2
  have k3 : Dq K (refG G) v3 (.tuple [.int i, .int j]) := dq_pair h3 fun b xs e => refG_tup e
  have sF : Same (restOf (refG G) H) H := fun b o e => by
    unfold restOf at e
    split at e
    · exact e
    · cases e
  have dis : ∀ b o, restOf (refG G) H b = some o → refG G b = none := fun b o e => by
    unfold restOf at e
    split at e
    · assumption
    · cases e
  have sR : Same (refG G) H := refG_sub.trans g
  have av : ∀ {x : Option V}, AllV K (refG G) [some v1, some v2, some v3, x] [some (.val (bkD n rows)), some (.val (.list pile)), some (.val (.tuple [.int i, .int j])), none] := fun {x} => .v k1 (.v k2 (.v k3 (.n allV_nil)))
  -- found
  refine ⟨restOf (refG G) H, noHp, refG G, _, av.lrF sF sR dis, ?_⟩
  have e1 : (fzE (callM f_m_ask (varE 0) (argsE [varE 2]))) [some (.val (bkD n rows)), some (.val (.list pile)), some (.val (.tuple [.int i, .int j])), none] = .ok (.tuple [.str z, .list (c :: cs)]) := by
    show (f_m_ask [bkD n rows, .tuple [.int i, .int j]]).bind fz = _
    rw [ea]
    rfl
  rw [e1]
  intro G2 H2 sG2 sH2 lr2 v hv
  have lr3 := lr2.setVal (i := 3) hv
  -- the answers
  refine ⟨restOf (refG G) H, noHp, G2, _, lr3, ?_⟩
  have e2 : (notT (op1 asB (fzE (callE f__law_answers (argsE [varE 0, varE 1, varE 2, varE 3]))))) (setE [some (.val (bkD n rows)), some (.val (.list pile)), some (.val (.tuple [.int i, .int j])), none] 3 (some (.val (.tuple [.str z, .list (c :: cs)])))) = .ok false := by
    show ((((f__law_answers [bkD n rows, .list pile, .tuple [.int i, .int j], .tuple [.str z, .list (c :: cs)]]).bind fz).bind asB).bind fun b => .ok (!b)) = _
    rw [eb]
    rfl
  rw [e2]
  intro G3 H3 sG3 sH3 lr4
  refine ite_f rfl ?_
  -- cleared
  refine ⟨restOf (refG G) H, noHp, G3, _, lr4, ?_⟩
  have e3 : (op2 ixP (varB 3) (constE (.int 1))) (setE [some (.val (bkD n rows)), some (.val (.list pile)), some (.val (.tuple [.int i, .int j])), none] 3 (some (.val (.tuple [.str z, .list (c :: cs)])))) = .ok (.list (c :: cs)) := rfl
  rw [e3]
  intro G4 H4 sG4 sH4 lr5 u hu
  obtain ⟨y, x0, xs0, eu, gy, hx0⟩ : ∃ y x0 xs0, u = .ref y ∧ G4 y = some (.lst (x0 :: xs0)) ∧ Dq K G4 x0 c := by
    cases hu with
    | lst qy ay =>
      cases ay with
      | cons b1 b2 => exact ⟨_, _, _, rfl, qy, b1⟩
  subst eu
  have hy4 : H4 y = some (.lst (x0 :: xs0)) := lr5.g _ _ gy
  have ry : refG G y = none := refG_no ((sG2.trans sG3).trans sG4) gy (flat_noref fl hx0)
  have fy : restOf (refG G) H y = none := by
    cases w : restOf (refG G) H y with
    | none => rfl
    | some o =>
      have := lr5.fg _ _ w
      rw [gy] at this
      cases this
  refine ⟨.inl ⟨rfl, _, SqL.of hy4⟩, y, _, rfl, rfl, hy4, ?_⟩
  have sR4 : Same (refG G) H4 := ((sG2.trans sG3).trans sG4).trans lr5.g
  -- asked again
  refine ⟨restOf (refG G) H, noHp, refG G, _, (av (x := some v)).lrF (same_mut lr5.f fy) (same_mut sR4 ry) dis, ?_⟩
  have e4 : (callE f__law_answers (argsE [varE 0, varE 1, varE 2, fzE (callM f_m_ask (varE 0) (argsE [varE 2]))])) [some (.val (bkD n rows)), some (.val (.list pile)), some (.val (.tuple [.int i, .int j])), none] = .ok (.val (.bool true)) := by
    show (argsE [varE 0, varE 1, varE 2, fzE (callM f_m_ask (varE 0) (argsE [varE 2]))] _).bind f__law_answers = _
    unfold argsE argsE argsE argsE argsE
    rw [e1]
    exact eb
  rw [e4]
  intro G7 H7 sG7 sH7 lr7 v7 hv7
  cases hv7
  refine q (.bl true) G H7 (Same.refl _) (fun b o e => ?_) (fun b o e => ?_) fg (.bl true)
  · refine lr7.f b o ?_
    have gn := fg _ _ e
    unfold restOf
    rw [if_pos]
    · exact f _ _ e
    · cases w : refG G b with
      | none => rfl
      | some o' =>
        rw [refG_sub _ _ w] at gn
        cases gn
  · cases w : refG G b with
    | none =>
      refine lr7.f b o ?_
      unfold restOf
      rw [if_pos w]
      exact g _ _ e
    | some o' =>
      have e' := refG_sub _ _ w
      rw [e] at e'
      cases e'
      exact lr7.g _ _ (sG7 _ _ w)
end
end Px
namespace Px
open PySem L2
noncomputable section
def cellAt (ns : List Int) (k : Nat) : Int := ns.getD k 0
theorem f_cell (ns : List Int) (k : Nat) : f__law_cell_at [scr ns, .int (k : Int)] = .ok (.val (.int (cellAt ns k))) := by
  simp [f__law_cell_at, fnE, envOf, g__law_cell_at]
  by_cases h : k < ns.length
  · rw [if_pos h, at_map', at_nat h]
    simp [cellAt, h]
  · rw [if_neg h]
    simp [cellAt, h]
def litBy (x : Int) : Int := if x % 2 = 1 then -(x / 2 + 1) else x / 2 + 1
theorem f_litby (x : Int) : f__law_lit_by [.int x] = .ok (.val (.int (litBy x))) := by
  simp [f__law_lit_by, fnE, envOf, g__law_lit_by, mod_ii, div_ii, litBy]
  split <;> rfl
/-- a list of switches' values out of a number -/
def bitsOf (r : Int) : Nat → List Bool
  | 0 => []
  | n + 1 => decide (r % 2 = 1) :: bitsOf (r / 2) n
theorem bitsOf_len : ∀ (r : Int) (n : Nat), (bitsOf r n).length = n
  | _, 0 => rfl
  | r, n + 1 => congrArg (· + 1) (bitsOf_len (r / 2) n)
abbrev encB (bs : List Bool) : PD := .list (bs.map PyData.bool)
theorem rng_z (lo : Int) : rng lo 0 = [] := rfl
theorem rng_s (lo : Int) (n : Nat) : rng lo (n + 1) = .int lo :: rng (lo + 1) n := by
  unfold rng
  rw [List.range_succ_eq_map, List.map_cons, List.map_map]
  congr 1
  · congr 1
    omega
  · congr 1
    funext i
    show PyData.int _ = PyData.int _
    congr 1
    show lo + ((i + 1 : Nat) : Int) = lo + 1 + (i : Int)
    omega
theorem small_nat {n : Nat} (h : n ≤ 1000000) : small (n : Int) := by
  unfold small
  omega
theorem small_int {n : Int} (h : -1000000 ≤ n) (h2 : n ≤ 1000000) : small n := by
  unfold small
  omega
theorem pow60 : powP (.int 2) (.int 60) = .ok (.int 1152921504606846976) := by
  exact cif_pos (by decide)
def bitsBy (cell : Int) (many : Nat) : List Bool := bitsOf (cell % 1152921504606846976) many
theorem bits_loop (cell : Int) (many : Nat) : ∀ (n : Nat) (lo r : Int) (x : Option D) (bs : List PD), bs.length + n ≤ 1000 → ∃ x' r', forE (tgN 4) l__law_bits_by_1 (rng lo n) [some (.val (.int cell)), some (.val (.int (many : Int))), some (.val (.int r)), some (.own bs), x] =
      .next [some (.val (.int cell)), some (.val (.int (many : Int))), some (.val (.int r')), some (.own (bs ++ (bitsOf r n).map PyData.bool)), x'] := by
    intro n
    induction n with
    | zero => intro lo r x bs _; exact ⟨x, r, by simp [rng_z, bitsOf, forE_n]⟩
    | succ n ih =>
      intro lo r x bs hb
      obtain ⟨x', r', e⟩ := ih (lo + 1) (r / 2) (some (.val (.int lo))) (bs ++ [.bool (decide (r % 2 = 1))]) (by rw [List.length_append, List.length_singleton]; omega)
      refine ⟨x', r', ?_⟩
      rw [rng_s, forE_c]
      have b : l__law_bits_by_1 [some (.val (.int cell)), some (.val (.int (many : Int))), some (.val (.int r)), some (.own bs), some (.val (.int lo))] = .next [some (.val (.int cell)), some (.val (.int (many : Int))), some (.val (.int (r / 2))), some (.own (bs ++ [.bool (decide (r % 2 = 1))])), some (.val (.int lo))] := by
        simp [l__law_bits_by_1, mod_ii, div_ii, show bs.length < 1000000 by omega]
      simp [b]
      simp at e
      rw [e]
      simp [bitsOf]
theorem rng1 {j : Int} (h : small j) : rngP [.int j] = .ok (rng 0 j.toNat) := cif_pos h
theorem rng2 {i j : Int} (h : small i) (h2 : small j) : rngP [.int i, .int j] = .ok (rng i (j - i).toNat) := cif_pos ⟨h, h2⟩
theorem rng3 {i j : Int} (h : small i) (h2 : small j) : rngP [.int i, .int j, .int (-1)] = .ok (rngC i (-1) (i - j).toNat) := cif_pos ⟨h, h2, rfl⟩
theorem rngN {n : Nat} (h : n ≤ 1000000) : rngP [.int (n : Int)] = .ok (rng 0 n) := rng1 (small_nat h)
theorem f_bits (cell : Int) (many : Nat) (h : many ≤ 1000) : f__law_bits_by [.int cell, .int (many : Int)] = .ok (.own ((bitsBy cell many).map PyData.bool)) := by
  obtain ⟨x', r', e⟩ := bits_loop cell many many 0 (cell % 1152921504606846976) none [] (by simpa using h)
  simp at e
  simp [f__law_bits_by, fnE, envOf, g__law_bits_by, mod_ii, pow60, rngN (show many ≤ 1000000 by omega), bitsBy]
  rw [e]
  simp
end
end Px
namespace Px
open PySem L2
noncomputable section
abbrev encI (xs : List Int) : PD := .list (xs.map PyData.int)
abbrev sayE (s : Int × Int) : PD := .tuple [.int s.1, .int s.2]
abbrev encP (p : List (Int × Int)) : PD := .list (p.map sayE)
/-- a literal of one of n switches -/
def LitOk (n : Nat) (l : Int) : Prop := l ≠ 0 ∧ l.natAbs ≤ n
def SayOk (n : Nat) (s : Int × Int) : Prop := LitOk n s.1 ∧ LitOk n s.2
def PileOk (n : Nat) (p : List (Int × Int)) : Prop := ∀ s ∈ p, SayOk n s
/-- a literal's truth -/
def bitAt (bs : List Bool) (l : Int) : Bool := bs.getD (l.natAbs - 1) false
def litT (bs : List Bool) (l : Int) : Bool := bitAt bs l == decide (0 < l)
@[simp] theorem litT_of (bs : List Bool) (l : Int) : decide (bitAt bs l = decide (0 < l)) = litT bs l := by
  unfold litT
  cases bitAt bs l <;> cases decide (0 < l) <;> rfl
@[simp] theorem orB (a b : Bool) : (if a = true then R.ok (PyData.bool true) else .ok (.bool b)) = .ok (.bool (a || b)) := by cases a <;> rfl
@[simp] theorem andB (a b : Bool) : (if a = true then R.ok (PyData.bool b) else .ok (.bool false)) = .ok (.bool (a && b)) := by cases a <;> rfl
@[simp] theorem orT' (a b : Bool) : (if a = true then R.ok true else .ok b) = .ok (a || b) := by cases a <;> rfl
@[simp] theorem andT' (a b : Bool) : (if a = true then R.ok b else .ok false) = .ok (a && b) := by cases a <;> rfl
def sayT (bs : List Bool) (s : Int × Int) : Bool := litT bs s.1 || litT bs s.2
def pileT (bs : List Bool) (p : List (Int × Int)) : Bool := p.all (sayT bs)
theorem bit_at {bs : List Bool} {l : Int} (h : LitOk bs.length l) : atI (bs.map PyData.bool) ((l.natAbs : Int) - 1) = some (.bool (bitAt bs l)) := by
  obtain ⟨h0, h1⟩ := h
  have h2 : 0 < l.natAbs := by omega
  have e : ((l.natAbs : Int) - 1) = ((l.natAbs - 1 : Nat) : Int) := by omega
  rw [e, at_map', at_nat (show l.natAbs - 1 < bs.length by omega)]
  simp [bitAt, show l.natAbs - 1 < bs.length by omega]
theorem beq_dec (a b : Bool) : decide (a = b) = (a == b) := by cases a <;> cases b <;> rfl
theorem f_lit {bs : List Bool} {l : Int} (h : LitOk bs.length l) : f_lit_holds [.int l, encB bs] = .ok (.val (.bool (litT bs l))) := by
  simp [f_lit_holds, fnE, envOf, g_lit_holds, bit_at h]
theorem f_says {bs : List Bool} {s : Int × Int} (h : SayOk bs.length s) : f_holds [sayE s, encB bs] = .ok (.val (.bool (sayT bs s))) := by
  simp [f_holds, fnE, envOf, g_holds, f_lit h.1, f_lit h.2, sayT]
theorem litBy_ok {n : Nat} {x : Int} (h : 0 ≤ x) (h2 : x < 2 * n) : LitOk n (litBy x) := by
  unfold litBy LitOk
  split <;> omega
def Sh (n : Nat) (d : PD) : Prop := d.canLay0 = true ∧ d.depth ≤ n
theorem Sh.ok {n : Nat} {d : PD} (h : Sh n d) (hn : n ≤ 64) : SeqAt.shaped d = true := by
  unfold SeqAt.shaped
  rw [h.1, decide_eq_true (Nat.le_trans h.2 hn)]
  rfl
theorem Sh.all {n : Nat} : ∀ {ds : List PD}, (∀ d ∈ ds, Sh n d) → PyData.canLayAll0 ds = true ∧ PyData.depthAll ds ≤ n
  | [], _ => by
    unfold PyData.canLayAll0 PyData.depthAll
    exact ⟨rfl, Nat.zero_le _⟩
  | d :: ds, h => by
    have h1 := h d List.mem_cons_self
    have h2 := Sh.all (ds := ds) fun x hx => h x (List.mem_cons_of_mem _ hx)
    unfold PyData.canLayAll0 PyData.depthAll
    rw [h1.1, h2.1]
    exact ⟨rfl, Nat.max_le.mpr ⟨h1.2, h2.2⟩⟩
theorem Sh.list {n : Nat} {ds : List PD} (h : ∀ d ∈ ds, Sh n d) : Sh (n + 1) (.list ds) := by
  have h2 := Sh.all h
  unfold Sh PyData.canLay0 PyData.depth
  exact ⟨h2.1, Nat.succ_le_succ h2.2⟩
theorem Sh.tup {n : Nat} {ds : List PD} (h : ∀ d ∈ ds, Sh n d) : Sh (n + 1) (.tuple ds) := by
  have h2 := Sh.all h
  unfold Sh PyData.canLay0 PyData.depth
  exact ⟨h2.1, Nat.succ_le_succ h2.2⟩
theorem sh_int (i : Int) : Sh 0 (.int i) := by
  unfold Sh PyData.canLay0 PyData.depth
  exact ⟨rfl, Nat.le_refl _⟩
theorem sh_bool (i : Bool) : Sh 0 (.bool i) := by
  unfold Sh PyData.canLay0 PyData.depth
  exact ⟨rfl, Nat.le_refl _⟩
theorem Sh.mono {n m : Nat} {d : PD} (h : Sh n d) (hm : n ≤ m) : Sh m d := ⟨h.1, Nat.le_trans h.2 hm⟩
theorem sh_map {α : Type} {n : Nat} {f : α → PD} (h : ∀ a, Sh n (f a)) (xs : List α) : Sh (n + 1) (.list (xs.map f)) := Sh.list fun d hd => by
  obtain ⟨a, _, e⟩ := List.mem_map.mp hd
  rw [← e]
  exact h a
theorem sh_B (bs : List Bool) : Sh 1 (encB bs) := sh_map sh_bool bs
theorem sh_I (bs : List Int) : Sh 1 (encI bs) := sh_map sh_int bs
theorem sh_say (s : Int × Int) : Sh 1 (sayE s) := Sh.tup fun d hd => by
  simp at hd
  rcases hd with rfl | rfl <;> exact sh_int _
theorem sh_P (p : List (Int × Int)) : Sh 2 (encP p) := sh_map sh_say p
theorem ev_list {α : Type} [DecidableEq α] {f : α → PD} (h : ∀ a b, PyData.eqv (f a) (f b) = decide (a = b)) : ∀ xs ys : List α, PyData.eqv (.list (xs.map f)) (.list (ys.map f)) = decide (xs = ys) := by
  have aux : ∀ xs ys : List α, PyData.eqvAll (xs.map f) (ys.map f) = decide (xs = ys) := by
    intro xs
    induction xs with
    | nil =>
      intro ys
      cases ys with
      | nil => simp [PyData.eqvAll]
      | cons y ys => simp [PyData.eqvAll]
    | cons x xs ih =>
      intro ys
      cases ys with
      | nil => simp [PyData.eqvAll]
      | cons y ys =>
        rw [List.map_cons, List.map_cons]
        unfold PyData.eqvAll
        rw [h, ih]
        by_cases e1 : x = y <;> by_cases e2 : xs = ys <;> simp [e1, e2]
  intro xs ys
  unfold PyData.eqv
  exact aux xs ys
theorem ev_B (a b : List Bool) : PyData.eqv (encB a) (encB b) = decide (a = b) := ev_list ev_bb a b
theorem ev_I (a b : List Int) : PyData.eqv (encI a) (encI b) = decide (a = b) := ev_list ev_ii a b
theorem ev_say (a b : Int × Int) : PyData.eqv (sayE a) (sayE b) = decide (a = b) := by
  obtain ⟨a1, a2⟩ := a
  obtain ⟨b1, b2⟩ := b
  unfold PyData.eqv PyData.eqvAll PyData.eqvAll PyData.eqvAll
  rw [ev_ii, ev_ii]
  by_cases e1 : a1 = b1 <;> by_cases e2 : a2 = b2 <;> simp [e1, e2]
theorem ev_P (a b : List (Int × Int)) : PyData.eqv (encP a) (encP b) = decide (a = b) := ev_list ev_say a b
theorem eq_of {n : Nat} {a b : PD} (ha : Sh n a) (hb : Sh n b) (hn : n ≤ 64) : eqP a b = .ok (PyData.eqv a b) := cif_pos ⟨ha.ok hn, hb.ok hn⟩
theorem ne_of' {n : Nat} {a b : PD} (ha : Sh n a) (hb : Sh n b) (hn : n ≤ 64) : neP a b = .ok (!PyData.eqv a b) := cif_pos ⟨ha.ok hn, hb.ok hn⟩
@[simp] theorem eq_B (a b : List Bool) : eqP (encB a) (encB b) = .ok (decide (a = b)) := by rw [eq_of (sh_B a) (sh_B b) (by decide), ev_B]
@[simp] theorem eq_I (a b : List Int) : eqP (encI a) (encI b) = .ok (decide (a = b)) := by rw [eq_of (sh_I a) (sh_I b) (by decide), ev_I]
@[simp] theorem eq_say (a b : Int × Int) : eqP (sayE a) (sayE b) = .ok (decide (a = b)) := by rw [eq_of (sh_say a) (sh_say b) (by decide), ev_say]
@[simp] theorem eq_P (a b : List (Int × Int)) : eqP (encP a) (encP b) = .ok (decide (a = b)) := by rw [eq_of (sh_P a) (sh_P b) (by decide), ev_P]
@[simp] theorem ne_B (a b : List Bool) : neP (encB a) (encB b) = .ok (!decide (a = b)) := by rw [ne_of' (sh_B a) (sh_B b) (by decide), ev_B]
@[simp] theorem ne_I (a b : List Int) : neP (encI a) (encI b) = .ok (!decide (a = b)) := by rw [ne_of' (sh_I a) (sh_I b) (by decide), ev_I]
@[simp] theorem ne_P (a b : List (Int × Int)) : neP (encP a) (encP b) = .ok (!decide (a = b)) := by rw [ne_of' (sh_P a) (sh_P b) (by decide), ev_P]
theorem f_cellI (ns : List Int) {i : Int} (h : 0 ≤ i) : f__law_cell_at [scr ns, .int i] = .ok (.val (.int (cellAt ns i.toNat))) := by
  have e := f_cell ns i.toNat
  rw [Int.toNat_of_nonneg h] at e
  exact e
theorem mul2 (n : Nat) : mulP (.int 2) (.int (n : Int)) = .ok (.int (2 * (n : Int))) := mul_ii (.inl (by decide))
theorem mod_n {i j : Int} (h : 0 < j) : modP (.int i) (.int j) = .ok (.int (i % j)) := mod_ii h
theorem div_n {i j : Int} (h : 0 < j) (h2 : j < 1073741824) : divP (.int i) (.int j) = .ok (.int (i / j)) := div_ii ⟨h, h2⟩
/-- one and a rest: a number of switches -/
theorem many_of (c : Int) {k : Int} (h : 0 < k) (h2 : k ≤ 100) : ∃ m : Nat, 1 + c % k = (m : Int) ∧ 1 ≤ m ∧ (m : Int) ≤ k := by
  have h3 := Int.emod_nonneg c (show k ≠ 0 by omega)
  have h4 := Int.emod_lt_of_pos c h
  exact ⟨(1 + c % k).toNat, by omega, by omega, by omega⟩
theorem lit_mod (c : Int) {m : Nat} (h : 1 ≤ m) : LitOk m (litBy (c % (2 * (m : Int)))) := litBy_ok (Int.emod_nonneg _ (by omega)) (Int.emod_lt_of_pos _ (by omega))
end
end Px
namespace Px
open PySem L2
noncomputable section
section
variable {α σ : Type} {tg : PD → Env → R Env} {g : Env → Out} {enc : α → PD}
/-- a turn: on to a new state, or out with an answer -/
inductive Go (σ : Type) where
  | on (s : σ)
  | out (d : D)
def Go.run (f : σ → α → Go σ) : List α → σ → Go σ
  | [], s => .on s
  | a :: as, s => match f s a with
    | .on s' => Go.run f as s'
    | .out d => .out d
def GoOk (I : σ → Env → Prop) (o : Out) : Go σ → Prop
  | .on s => ∃ L, o = .next L ∧ I s L
  | .out d => o = .ret d
def TurnOk (I : σ → Env → Prop) (o : Out) : Go σ → Prop
  | .on s => ∃ L, (o = .next L ∨ o = .ct L) ∧ I s L
  | .out d => o = .ret d
theorem forE_go (I : σ → Env → Prop) (f : σ → α → Go σ) : ∀ (xs : List α) (s : σ) (L : Env), (∀ s a L, a ∈ xs → I s L → ∃ L1, tg (enc a) L = .ok L1 ∧ TurnOk I (g L1) (f s a)) → I s L → GoOk I (forE tg g (xs.map enc) L) (Go.run f xs s)
  | [], s, L, _, h => ⟨L, rfl, h⟩
  | a :: as, s, L, ht, h => by
    obtain ⟨L1, e1, h1⟩ := ht s a L List.mem_cons_self h
    rw [List.map_cons, forE_c, e1, out_ok']
    unfold Go.run
    cases e : f s a with
    | on s' =>
      rw [e] at h1
      obtain ⟨L2, e2, h2⟩ := h1
      have ih := forE_go I f as s' L2 (fun s a L ha => ht s a L (List.mem_cons_of_mem _ ha)) h2
      rcases e2 with e2 | e2
      · rw [e2]
        exact ih
      · rw [e2]
        exact ih
    | out d =>
      rw [e] at h1
      have e2 : g L1 = .ret d := h1
      rw [e2]
      rfl
/-- a loop that only folds -/
theorem forE_fold (I : σ → Env → Prop) (f : σ → α → σ) (xs : List α) (s : σ) (L : Env) (ht : ∀ s a L, a ∈ xs → I s L → ∃ L1 L2, tg (enc a) L = .ok L1 ∧ (g L1 = .next L2 ∨ g L1 = .ct L2) ∧ I (f s a) L2) (h : I s L) :
    ∃ L', forE tg g (xs.map enc) L = .next L' ∧ I (xs.foldl f s) L' := by
  have k := forE_go (tg := tg) (g := g) (enc := enc) I (fun s a => .on (f s a)) xs s L (fun s a L ha hi => by
    obtain ⟨L1, L2, e1, e2, h2⟩ := ht s a L ha hi
    exact ⟨L1, e1, L2, e2, h2⟩) h
  have e : ∀ (xs : List α) (s : σ), Go.run (fun s a => .on (f s a)) xs s = .on (xs.foldl f s) := fun xs => by
    induction xs with
    | nil => intro s; rfl
    | cons a as ih =>
      intro s
      unfold Go.run
      exact ih (f s a)
  rw [e] at k
  exact k
/-- a loop that looks for one -/
theorem forE_find (I : Env → Prop) (p : α → Bool) (v : α → D) (xs : List α) (L : Env) (ht : ∀ a L, a ∈ xs → I L → ∃ L1, tg (enc a) L = .ok L1 ∧ (p a = true → g L1 = .ret (v a)) ∧ (p a = false → ∃ L2, (g L1 = .next L2 ∨ g L1 = .ct L2) ∧ I L2)) (h : I L) :
    (∃ a ∈ xs, p a = true ∧ forE tg g (xs.map enc) L = .ret (v a) ∧ ∃ i : Nat, xs[i]? = some a ∧ ∀ j : Nat, j < i → ∀ b, xs[j]? = some b → p b = false) ∨ ((∀ a ∈ xs, p a = false) ∧ ∃ L', forE tg g (xs.map enc) L = .next L' ∧ I L') := by
  induction xs generalizing L with
  | nil => exact .inr ⟨(fun _ h => by cases h), L, rfl, h⟩
  | cons a as ih =>
    obtain ⟨L1, e1, h1, h2⟩ := ht a L List.mem_cons_self h
    rw [List.map_cons, forE_c, e1, out_ok']
    cases e : p a with
    | true =>
      refine .inl ⟨a, List.mem_cons_self, e, by rw [h1 e]; rfl, 0, rfl, fun j hj => absurd hj (Nat.not_lt_zero j)⟩
    | false =>
      obtain ⟨L2, e2, hi⟩ := h2 e
      have k : (g L1).turn (fun L' => forE tg g (as.map enc) L') = forE tg g (as.map enc) L2 := by rcases e2 with e2 | e2 <;> (rw [e2]; rfl)
      rw [k]
      rcases ih L2 (fun a L ha => ht a L (List.mem_cons_of_mem _ ha)) hi with ⟨b, hb, pb, eb, i, hi, hn⟩ | ⟨hn, r⟩
      · refine .inl ⟨b, List.mem_cons_of_mem _ hb, pb, eb, i + 1, hi, fun j hj c hc => ?_⟩
        cases j with
        | zero =>
          cases hc
          exact e
        | succ j => exact hn j (by omega) c hc
      · refine .inr ⟨fun c hc => ?_, r⟩
        rcases List.mem_cons.mp hc with rfl | hc
        · exact e
        · exact hn c hc
end
/-- a range's turns -/
theorem rng_map (lo : Int) (n : Nat) : rng lo n = ((List.range n).map fun (i : Nat) => lo + (i : Int)).map PyData.int := by
  unfold rng
  rw [List.map_map]
  rfl
theorem while_inv {t : Env → R Bool} {g : Env → Out} (I : Nat → Env → Prop) (post : Out → Prop)
    (h : ∀ (n : Nat) (L : Env), I n L → (t L = .ok false ∧ post (.next L)) ∨ (t L = .ok true ∧ ((∃ L' m, (g L = .next L' ∨ g L = .ct L') ∧ m < n ∧ I m L') ∨ ∃ d, g L = .ret d ∧ post (.ret d)))) :
    ∀ (k n : Nat) (L : Env), I n L → n < k → post (whileE t g k L)
  | 0, n, L, _, hk => absurd hk (Nat.not_lt_zero n)
  | k + 1, n, L, hi, hk => by
    rw [while_s]
    rcases h n L hi with ⟨e, p⟩ | ⟨e, ⟨L', m, e2, hm, hi'⟩ | ⟨d, e2, p⟩⟩
    · rw [e]
      exact p
    · rw [e, out_ok', if_pos rfl]
      have ih := while_inv I post h k m L' hi' (by omega)
      rcases e2 with e2 | e2 <;> (rw [e2]; exact ih)
    · rw [e, out_ok', if_pos rfl, e2]
      exact p
theorem while_ok {t : Env → R Bool} {g : Env → Out} (I : Nat → Env → Prop) (post : Out → Prop)
    (h : ∀ (n : Nat) (L : Env), I n L → (t L = .ok false ∧ post (.next L)) ∨ (t L = .ok true ∧ ((∃ L' m, (g L = .next L' ∨ g L = .ct L') ∧ m < n ∧ I m L') ∨ ∃ d, g L = .ret d ∧ post (.ret d)))) (n : Nat) (L : Env) (hi : I n L) (hn : n < 10000000) : post (whileS t g L) :=
  while_inv I post h fuel n L hi hn
theorem any_int (xs : List Int) (x : Int) : ((xs.map PyData.int).any fun z => PyData.eqv z (.int x)) = decide (x ∈ xs) := by
  induction xs with
  | nil => rfl
  | cons y ys ih =>
    rw [List.map_cons, List.any_cons, ih, ev_ii]
    by_cases e : x = y
    · subst e
      simp
    · have e' : ¬ y = x := fun h => e h.symm
      simp [e, e']
@[simp] theorem in_I (xs : List Int) (x : Int) : inP false (.int x) (encI xs) = .ok (decide (x ∈ xs)) := by
  show cif _ _ _ = _
  rw [cif_pos ⟨rfl, (sh_I xs).ok (by decide)⟩, any_int]
  rfl
@[simp] theorem ni_I (xs : List Int) (x : Int) : inP true (.int x) (encI xs) = .ok (!decide (x ∈ xs)) := by
  show cif _ _ _ = _
  rw [cif_pos ⟨rfl, (sh_I xs).ok (by decide)⟩, any_int]
  rfl
def addIf (c : Bool) (x : Int) (acc : List Int) : List Int := if c = true ∧ x ∉ acc then acc ++ [x] else acc
def stepTurn (l : Int) (acc : List Int) (s : Int × Int) : List Int := addIf (decide (s.2 = -l)) s.1 (addIf (decide (s.1 = -l)) s.2 acc)
def stepsFrom (p : List (Int × Int)) (l : Int) : List Int := p.foldl (stepTurn l) []
theorem addIf_len (c : Bool) (x : Int) (acc : List Int) : (addIf c x acc).length ≤ acc.length + 1 := by
  unfold addIf
  split
  · rw [List.length_append, List.length_singleton]
    exact Nat.le_refl _
  · exact Nat.le_succ _
theorem stepTurn_len (l : Int) (acc : List Int) (s : Int × Int) : (stepTurn l acc s).length ≤ acc.length + 2 := by
  have h1 := addIf_len (decide (s.2 = -l)) s.1 (addIf (decide (s.1 = -l)) s.2 acc)
  have h2 := addIf_len (decide (s.1 = -l)) s.2 acc
  unfold stepTurn
  omega
theorem steps_in (d0 : D) (l a b : Int) (say x y : Option D) (acc : List Int) (hl : acc.length < 999999) : ∃ x' y', forE (tgT 4 5) l_steps_from_2 [sayE (a, b), sayE (b, a)]
    [some d0, some (.val (.int l)), some (.own (acc.map PyData.int)), say, x, y] = .next [some d0, some (.val (.int l)), some (.own ((stepTurn l acc (a, b)).map PyData.int)), say, x', y'] := by
  have one : ∀ (a b : Int) (x y : Option D) (acc : List Int), acc.length < 1000000 → l_steps_from_2 [some d0, some (.val (.int l)), some (.own (acc.map PyData.int)), say, some (.val (.int a)), some (.val (.int b))] =
      .next [some d0, some (.val (.int l)), some (.own ((addIf (decide (a = -l)) b acc).map PyData.int)), say, some (.val (.int a)), some (.val (.int b))] := by
    intro a b x y acc hl
    unfold addIf
    by_cases e1 : a = -l
    · by_cases e2 : b ∈ acc
      · simp [l_steps_from_2, e1, e2]
      · simp [l_steps_from_2, e1, e2, hl]
    · simp [l_steps_from_2, e1]
  refine ⟨some (.val (.int b)), some (.val (.int a)), ?_⟩
  have h2 := addIf_len (decide (a = -l)) b acc
  simp [forE_n, forE_c, one a b x y acc (by omega), one b a x y (addIf (decide (a = -l)) b acc) (by omega), stepTurn]
theorem steps_out (d0 : D) (l : Int) : ∀ (p : List (Int × Int)) (acc : List Int) (say x y : Option D), acc.length + 2 * p.length < 900000 → ∃ say' x' y', forE (tgN 3) l_steps_from_1 (p.map sayE)
    [some d0, some (.val (.int l)), some (.own (acc.map PyData.int)), say, x, y] = .next [some d0, some (.val (.int l)), some (.own ((p.foldl (stepTurn l) acc).map PyData.int)), say', x', y']
  | [], acc, say, x, y, _ => ⟨say, x, y, rfl⟩
  | (a, b) :: p, acc, say, x, y, h => by
    rw [List.length_cons] at h
    obtain ⟨x1, y1, e1⟩ := steps_in d0 l a b (some (.val (sayE (a, b)))) x y acc (by omega)
    have hl := stepTurn_len l acc (a, b)
    obtain ⟨say2, x2, y2, e2⟩ := steps_out d0 l p (stepTurn l acc (a, b)) (some (.val (sayE (a, b)))) x1 y1 (by omega)
    refine ⟨say2, x2, y2, ?_⟩
    have b : l_steps_from_1 [some d0, some (.val (.int l)), some (.own (acc.map PyData.int)), some (.val (sayE (a, b))), x, y] = .next [some d0, some (.val (.int l)), some (.own ((stepTurn l acc (a, b)).map PyData.int)), some (.val (sayE (a, b))), x1, y1] := by
      simp [l_steps_from_1]
      exact e1
    rw [List.map_cons, forE_c]
    simp [b]
    exact e2
theorem f_steps (p : List (Int × Int)) (l : Int) (hp : p.length ≤ 1000) : f_steps_from [encP p, .int l] = .ok (.own ((stepsFrom p l).map PyData.int)) := by
  obtain ⟨say, x, y, e⟩ := steps_out (.val (encP p)) l p [] none none none (by simp; omega)
  simp at e
  simp [f_steps_from, fnE, envOf, g_steps_from, e, stepsFrom]
end
end Px
namespace Px
open PySem L2
noncomputable section
abbrev Say := Int × Int
def Step (p : List Say) (a b : Int) : Prop := ∃ s ∈ p, (s.1 = -a ∧ s.2 = b) ∨ (s.2 = -a ∧ s.1 = b)
inductive Rc (p : List Say) : Int → Int → Prop
  | refl (a : Int) : Rc p a a
  | tail {a b c : Int} : Rc p a b → Step p b c → Rc p a c
section
variable {p q : List Say} {n : Nat} {a b c : Int}
theorem Rc.one (h : Step p a b) : Rc p a b := .tail (.refl a) h
theorem Rc.trans (h : Rc p a b) (k : Rc p b c) : Rc p a c := by
  induction k with
  | refl => exact h
  | tail _ s ih => exact .tail ih s
theorem Rc.head (h : Step p a b) (k : Rc p b c) : Rc p a c := (Rc.one h).trans k
theorem Step.flip (h : Step p a b) : Step p (-b) (-a) := by
  obtain ⟨s, hs, h | h⟩ := h
  · exact ⟨s, hs, .inr ⟨by omega, by omega⟩⟩
  · exact ⟨s, hs, .inl ⟨by omega, by omega⟩⟩
theorem Rc.flip (h : Rc p a b) : Rc p (-b) (-a) := by
  induction h with
  | refl => exact .refl _
  | tail _ s ih => exact Rc.head s.flip ih
theorem Step.mono (hs : ∀ s ∈ p, s ∈ q) (h : Step p a b) : Step q a b := let ⟨s, m, r⟩ := h; ⟨s, hs s m, r⟩
theorem Rc.mono (hs : ∀ s ∈ p, s ∈ q) (h : Rc p a b) : Rc q a b := by
  induction h with
  | refl => exact .refl _
  | tail _ s ih => exact .tail ih (s.mono hs)
theorem litOk_neg (h : LitOk n a) : LitOk n (-a) := ⟨by have := h.1; omega, by have := h.2; omega⟩
theorem Step.ok (hp : PileOk n p) (h : Step p a b) : LitOk n b := by
  obtain ⟨s, hs, ⟨_, e⟩ | ⟨_, e⟩⟩ := h
  · rw [← e]; exact (hp s hs).2
  · rw [← e]; exact (hp s hs).1
theorem Rc.ok (hp : PileOk n p) (h : Rc p a b) (ha : LitOk n a) : LitOk n b := by
  cases h with
  | refl => exact ha
  | tail _ s => exact s.ok hp
end
def Rd2 (p : List Say) (S : List Int) (x : Int) : Prop := ∃ s ∈ S, Rc p s x
/-- a literal and its flip -/
def Torn (p : List Say) (S : List Int) : Prop := ∃ l, Rd2 p S l ∧ Rd2 p S (-l)
section
variable {p : List Say} {n : Nat} {S T : List Int} {a b x : Int}
theorem Rd2.of (h : x ∈ S) : Rd2 p S x := ⟨x, h, .refl x⟩
theorem Rd2.step (h : Rd2 p S a) (s : Step p a b) : Rd2 p S b := let ⟨z, hz, r⟩ := h; ⟨z, hz, .tail r s⟩
theorem Rd2.rc (h : Rd2 p S a) (s : Rc p a b) : Rd2 p S b := let ⟨z, hz, r⟩ := h; ⟨z, hz, r.trans s⟩
theorem Rd2.sub (h : ∀ y ∈ S, Rd2 p T y) (k : Rd2 p S x) : Rd2 p T x := let ⟨z, hz, r⟩ := k; (h z hz).rc r
theorem Torn.sub (h : ∀ y ∈ S, Rd2 p T y) (k : Torn p S) : Torn p T := let ⟨l, h1, h2⟩ := k; ⟨l, h1.sub h, h2.sub h⟩
end
section
variable {p : List Say} {n : Nat} {S : List Int} {a b x : Int} {w : List Bool}
theorem litT_neg (h : LitOk n a) (w : List Bool) : litT w (-a) = !litT w a := by
  unfold litT bitAt
  have h0 := h.1
  rw [show (-a).natAbs = a.natAbs by omega]
  by_cases e : 0 < a
  · rw [decide_eq_true e, decide_eq_false (show ¬ 0 < -a by omega)]
    cases w.getD (a.natAbs - 1) false <;> rfl
  · rw [decide_eq_false e, decide_eq_true (show 0 < -a by omega)]
    cases w.getD (a.natAbs - 1) false <;> rfl
theorem pileT_all (h : pileT w p = true) {s : Say} (hs : s ∈ p) : sayT w s = true := by
  unfold pileT at h
  rw [List.all_eq_true] at h
  exact h s hs
theorem Step.sound (hp : PileOk n p) (hw : pileT w p = true) (h : Step p a b) (ha : litT w a = true) : litT w b = true := by
  obtain ⟨s, hs, h | h⟩ := h
  · have t := pileT_all hw hs
    have o : LitOk n a := by
      have := litOk_neg (hp s hs).1
      rw [h.1, Int.neg_neg] at this
      exact this
    unfold sayT at t
    rw [h.1, h.2, litT_neg o, ha] at t
    simpa using t
  · have t := pileT_all hw hs
    have o : LitOk n a := by
      have := litOk_neg (hp s hs).2
      rw [h.1, Int.neg_neg] at this
      exact this
    unfold sayT at t
    rw [h.1, h.2, litT_neg o, ha] at t
    simpa using t
theorem Rc.sound (hp : PileOk n p) (hw : pileT w p = true) (h : Rc p a b) (ha : litT w a = true) : litT w b = true := by
  induction h with
  | refl => exact ha
  | tail _ s ih => exact s.sound hp hw ih
theorem Rd2.sound (hp : PileOk n p) (hw : pileT w p = true) (hS : ∀ y ∈ S, litT w y = true) (h : Rd2 p S x) : litT w x = true := let ⟨z, hz, r⟩ := h; r.sound hp hw (hS z hz)
theorem Rd2.ok (hp : PileOk n p) (hS : ∀ y ∈ S, LitOk n y) (h : Rd2 p S x) : LitOk n x := let ⟨z, hz, r⟩ := h; r.ok hp (hS z hz)
theorem torn_no (hp : PileOk n p) (hS : ∀ y ∈ S, LitOk n y) (hw : pileT w p = true) (hT : ∀ y ∈ S, litT w y = true) (h : Torn p S) : False := by
  obtain ⟨l, h1, h2⟩ := h
  have e1 := h1.sound hp hw hT
  have e2 := h2.sound hp hw hT
  rw [litT_neg (h1.ok hp hS), e1] at e2
  cases e2
/-- a ring -/
theorem ring_no (hp : PileOk n p) (hw : pileT w p = true) {k : Int} (hk : LitOk n k) (h1 : Rc p k (-k)) (h2 : Rc p (-k) k) : False := by
  cases e : litT w k with
  | true =>
    have := h1.sound hp hw e
    rw [litT_neg hk, e] at this
    cases this
  | false =>
    have h := h2.sound hp hw (by rw [litT_neg hk, e]; rfl)
    rw [e] at h
    cases h
def settingOf (n : Nat) (C : List Int) : List Bool := (List.range n).map fun (i : Nat) => decide (((i : Int) + 1) ∈ C)
theorem settingOf_len (n : Nat) (C : List Int) : (settingOf n C).length = n := by
  unfold settingOf
  rw [List.length_map, List.length_range]
theorem bitAt_of (C : List Int) (hx : LitOk n x) : bitAt (settingOf n C) x = decide ((x.natAbs : Int) ∈ C) := by
  have h1 : x.natAbs - 1 < n := by
    have h0 := hx.1
    have h2 := hx.2
    omega
  unfold bitAt settingOf
  rw [List.getD_eq_getElem?_getD, List.getElem?_map, List.getElem?_range h1]
  show decide (((x.natAbs - 1 : Nat) : Int) + 1 ∈ C) = _
  have h0 := hx.1
  rw [show ((x.natAbs - 1 : Nat) : Int) + 1 = (x.natAbs : Int) by omega]
theorem litT_set (C : List Int) (hx : LitOk n x) (hd : x ∈ C ∨ -x ∈ C) (hu : ¬ (x ∈ C ∧ -x ∈ C)) : litT (settingOf n C) x = decide (x ∈ C) := by
  unfold litT
  rw [bitAt_of C hx]
  have h0 := hx.1
  by_cases e : 0 < x
  · rw [show ((x.natAbs : Nat) : Int) = x by omega, decide_eq_true e]
    cases decide (x ∈ C) <;> rfl
  · rw [show ((x.natAbs : Nat) : Int) = -x by omega, decide_eq_false e]
    by_cases h1 : x ∈ C
    · have h2 : ¬ -x ∈ C := fun h => hu ⟨h1, h⟩
      rw [decide_eq_true h1, decide_eq_false h2]
      rfl
    · have h2 : -x ∈ C := hd.resolve_left h1
      rw [decide_eq_false h1, decide_eq_true h2]
      rfl
/-- closed under the pile's steps -/
def Closed (p : List Say) (C : List Int) : Prop := ∀ a b, a ∈ C → Step p a b → b ∈ C
def Untorn (C : List Int) : Prop := ∀ a, a ∈ C → -a ∈ C → False
theorem set_good (hp : PileOk n p) {C : List Int} (hc : Closed p C) (hu : Untorn C) (hd : ∀ a, LitOk n a → a ∈ C ∨ -a ∈ C) : pileT (settingOf n C) p = true := by
  unfold pileT
  rw [List.all_eq_true]
  intro s hs
  obtain ⟨o1, o2⟩ := hp s hs
  unfold sayT
  rcases hd s.1 o1 with h | h
  · rw [litT_set C o1 (.inl h) fun z => hu _ z.1 z.2, decide_eq_true h]
    rfl
  · have h2 : s.2 ∈ C := hc _ _ h ⟨s, hs, .inl ⟨by omega, rfl⟩⟩
    rw [litT_set C o2 (.inl h2) fun z => hu _ z.1 z.2, decide_eq_true h2, Bool.or_true]
/-- a good setting turned so that a closed untorn set is true in it -/
def turned (n : Nat) (C : List Int) (w : List Bool) : List Bool := (List.range n).map fun (i : Nat) => if ((i : Int) + 1) ∈ C then true else if -((i : Int) + 1) ∈ C then false else w.getD i false
theorem turned_len (n : Nat) (C : List Int) (w : List Bool) : (turned n C w).length = n := by
  unfold turned
  rw [List.length_map, List.length_range]
theorem litT_turned (C : List Int) (w : List Bool) (hu : Untorn C) (hx : LitOk n x) : litT (turned n C w) x = if x ∈ C then true else if -x ∈ C then false else litT w x := by
  have h0 := hx.1
  have h2 := hx.2
  have h1 : x.natAbs - 1 < n := by omega
  unfold litT bitAt turned
  rw [List.getD_eq_getElem?_getD, List.getElem?_map, List.getElem?_range h1]
  show ((if ((x.natAbs - 1 : Nat) : Int) + 1 ∈ C then true else if -(((x.natAbs - 1 : Nat) : Int) + 1) ∈ C then false else w.getD (x.natAbs - 1) false) == decide (0 < x)) = _
  rw [show ((x.natAbs - 1 : Nat) : Int) + 1 = (x.natAbs : Int) by omega]
  by_cases e : 0 < x
  · rw [show ((x.natAbs : Nat) : Int) = x by omega, decide_eq_true e]
    by_cases c1 : x ∈ C
    · rw [if_pos c1, if_pos c1]; rfl
    · rw [if_neg c1, if_neg c1]
      by_cases c2 : -x ∈ C
      · rw [if_pos c2, if_pos c2]; rfl
      · rw [if_neg c2, if_neg c2]
  · rw [show ((x.natAbs : Nat) : Int) = -x by omega, decide_eq_false e, Int.neg_neg]
    by_cases c1 : x ∈ C
    · have c2 : ¬ -x ∈ C := fun z => hu _ c1 z
      rw [if_neg c2, if_pos c1, if_pos c1]; rfl
    · rw [if_neg c1, if_neg c1]
      by_cases c2 : -x ∈ C
      · rw [if_pos c2, if_pos c2]; rfl
      · rw [if_neg c2, if_neg c2]
theorem turned_good (hp : PileOk n p) {C : List Int} (hc : Closed p C) (hu : Untorn C) (hw : pileT w p = true) : pileT (turned n C w) p = true := by
  unfold pileT
  rw [List.all_eq_true]
  intro s hs
  obtain ⟨o1, o2⟩ := hp s hs
  have t := pileT_all hw hs
  unfold sayT at t ⊢
  rw [litT_turned C w hu o1, litT_turned C w hu o2]
  by_cases a1 : s.1 ∈ C
  · rw [if_pos a1]; rfl
  · rw [if_neg a1]
    by_cases a2 : -s.1 ∈ C
    · have h2 : s.2 ∈ C := hc _ _ a2 ⟨s, hs, .inl ⟨by omega, rfl⟩⟩
      rw [if_pos h2, Bool.or_true]
    · rw [if_neg a2]
      by_cases b1 : s.2 ∈ C
      · rw [if_pos b1, Bool.or_true]
      · rw [if_neg b1]
        by_cases b2 : -s.2 ∈ C
        · exact absurd (hc _ _ b2 ⟨s, hs, .inr ⟨by omega, rfl⟩⟩) a1
        · rw [if_neg b2]
          exact t
/-- a try that tears tells a road -/
theorem try_road {C : List Int} (hc : Closed p C) (hu : Untorn C) {k : Int} (hk : k ∉ C) (h : Torn p (C ++ [-k])) : Rc p (-k) k := by
  have inC : ∀ {a b}, a ∈ C → Rc p a b → b ∈ C := fun {a b} ha r => by
    induction r with
    | refl => exact ha
    | tail _ s ih => exact hc _ _ ih s
  obtain ⟨l, ⟨s1, m1, r1⟩, ⟨s2, m2, r2⟩⟩ := h
  rw [List.mem_append, List.mem_singleton] at m1 m2
  rcases m1 with m1 | m1
  · rcases m2 with m2 | m2
    · exact (hu l (inC m1 r1) (inC m2 r2)).elim
    · subst m2
      have f := r2.flip
      rw [Int.neg_neg, Int.neg_neg] at f
      exact (hk (inC (inC m1 r1) f)).elim
  · subst m1
    rcases m2 with m2 | m2
    · have f := r1.flip
      rw [Int.neg_neg] at f
      exact (hk (inC (inC m2 r2) f)).elim
    · have f := r2.flip
      rw [m2, Int.neg_neg, Int.neg_neg] at f
      exact r1.trans f
/-- from two literals -/
theorem two_road {a b : Int} (h : Torn p [a, b]) : Rc p a (-a) ∨ Rc p a (-b) ∨ Rc p b (-b) := by
  obtain ⟨l, ⟨s1, m1, r1⟩, ⟨s2, m2, r2⟩⟩ := h
  have f := r2.flip
  rw [Int.neg_neg] at f
  have r := r1.trans f
  simp only [List.mem_cons, List.not_mem_nil, or_false] at m1 m2
  rcases m1 with rfl | rfl
  · rcases m2 with rfl | rfl
    · exact .inl r
    · exact .inr (.inl r)
  · rcases m2 with rfl | rfl
    · have g := r.flip
      rw [Int.neg_neg] at g
      exact .inr (.inl g)
    · exact .inr (.inr r)
end
/-- the values of the first m switches, as literals -/
def litsOf (w : List Bool) (m : Nat) : List Int := (List.range m).map fun (i : Nat) => if w.getD i false = true then (i : Int) + 1 else -((i : Int) + 1)
section
variable {p : List Say} {n m : Nat} {S : List Int} {a b x : Int} {w r : List Bool}
theorem mem_lits : x ∈ litsOf w m ↔ x ≠ 0 ∧ x.natAbs ≤ m ∧ litT w x = true := by
  unfold litsOf
  rw [List.mem_map]
  constructor
  · rintro ⟨i, hi, e⟩
    rw [List.mem_range] at hi
    by_cases c : w.getD i false = true
    · rw [if_pos c] at e
      subst e
      refine ⟨by omega, by omega, ?_⟩
      unfold litT bitAt
      rw [show ((i : Int) + 1).natAbs - 1 = i by omega, c, decide_eq_true (show 0 < (i : Int) + 1 by omega)]
      rfl
    · rw [if_neg c] at e
      subst e
      refine ⟨by omega, by omega, ?_⟩
      unfold litT bitAt
      rw [show (-((i : Int) + 1)).natAbs - 1 = i by omega, decide_eq_false (show ¬ 0 < -((i : Int) + 1) by omega)]
      simpa using c
  · rintro ⟨h0, h1, h2⟩
    refine ⟨x.natAbs - 1, List.mem_range.mpr (by omega), ?_⟩
    unfold litT bitAt at h2
    by_cases c : 0 < x
    · rw [decide_eq_true c] at h2
      have h3 : w.getD (x.natAbs - 1) false = true := by simpa using h2
      rw [if_pos h3]
      omega
    · rw [decide_eq_false c] at h2
      have h3 : ¬ w.getD (x.natAbs - 1) false = true := by
        intro z
        rw [z] at h2
        cases h2
      rw [if_neg h3]
      omega
/-- r: a good setting in which the wishes are true; where it is on, its being off is torn -/
structure First (n : Nat) (p : List Say) (S : List Int) (r : List Bool) : Prop where
  len : r.length = n
  good : pileT r p = true
  wish : ∀ y ∈ S, litT r y = true
  torn : ∀ k : Nat, 1 ≤ k → k ≤ n → litT r (k : Int) = true → Torn p (S ++ litsOf r (k - 1) ++ [-(k : Int)])
/-- there is none: the wishes are torn, or there is a ring -/
def Shut (n : Nat) (p : List Say) (S : List Int) : Prop := Torn p S ∨ ∃ k : Nat, 1 ≤ k ∧ k ≤ n ∧ Rc p (k : Int) (-(k : Int)) ∧ Rc p (-(k : Int)) (k : Int)
theorem litOk_nat {k : Nat} (h1 : 1 ≤ k) (h2 : k ≤ n) : LitOk n (k : Int) := ⟨by omega, by omega⟩
theorem Shut.no (hp : PileOk n p) (hS : ∀ y ∈ S, LitOk n y) (h : Shut n p S) (hw : pileT w p = true) (hT : ∀ y ∈ S, litT w y = true) : False := by
  rcases h with h | ⟨k, h1, h2, r1, r2⟩
  · exact torn_no hp hS hw hT h
  · exact ring_no hp hw (litOk_nat h1 h2) r1 r2
theorem getD_ext {u v : List Bool} (hl : u.length = v.length) (h : ∀ i, i < u.length → u.getD i false = v.getD i false) : u = v := by
  refine List.ext_getElem hl fun i h1 h2 => ?_
  have e := h i h1
  rw [List.getD_eq_getElem?_getD, List.getD_eq_getElem?_getD, List.getElem?_eq_getElem h1, List.getElem?_eq_getElem h2] at e
  exact e
theorem litT_nat {k : Nat} (h : 1 ≤ k) : litT w (k : Int) = w.getD (k - 1) false := by
  unfold litT bitAt
  rw [decide_eq_true (show 0 < (k : Int) by omega), show ((k : Int)).natAbs - 1 = k - 1 by omega]
  cases w.getD (k - 1) false <;> rfl
/-- no other good setting in which the wishes are true goes ahead: at the first place of parting the first one is off -/
theorem First.ahead (F : First n p S r) (hp : PileOk n p) (hS : ∀ y ∈ S, LitOk n y) (hw : pileT w p = true) (hT : ∀ y ∈ S, litT w y = true) {i : Nat} (hi : i < n) (same : ∀ j, j < i → w.getD j false = r.getD j false) (off : w.getD i false = false) : r.getD i false = false := by
  cases e : r.getD i false with
  | false => rfl
  | true =>
    have t := F.torn (i + 1) (by omega) (by omega) (by rw [litT_nat (by omega)]; exact e)
    refine (torn_no hp (fun y hy => ?_) hw (fun y hy => ?_) t).elim
    · rw [List.mem_append, List.mem_append, List.mem_singleton] at hy
      rcases hy with (hy | hy) | hy
      · exact hS y hy
      · obtain ⟨h0, h1, _⟩ := mem_lits.mp hy
        exact ⟨h0, by omega⟩
      · rw [hy]
        exact litOk_neg (litOk_nat (by omega) (by omega))
    · rw [List.mem_append, List.mem_append, List.mem_singleton] at hy
      rcases hy with (hy | hy) | hy
      · exact hT y hy
      · obtain ⟨h0, h1, h2⟩ := mem_lits.mp hy
        unfold litT bitAt at h2 ⊢
        rw [same (y.natAbs - 1) (by omega)]
        exact h2
      · rw [hy, litT_neg (litOk_nat (n := n) (by omega) (by omega)), litT_nat (by omega), show i + 1 - 1 = i by omega, off]
        rfl
theorem First.one {r' : List Bool} (F : First n p S r) (F' : First n p S r') (hp : PileOk n p) (hS : ∀ y ∈ S, LitOk n y) : r = r' := by
  refine getD_ext (by rw [F.len, F'.len]) fun i hi => ?_
  rw [F.len] at hi
  induction i using Nat.strongRecOn with
  | ind i ih =>
    cases e1 : r.getD i false with
    | false =>
      cases e2 : r'.getD i false with
      | false => rfl
      | true =>
        have := F'.ahead hp hS F.good F.wish hi (fun j hj => ih j hj (by omega)) e1
        rw [e2] at this
        cases this
    | true =>
      cases e2 : r'.getD i false with
      | true => rfl
      | false =>
        have := F.ahead hp hS F'.good F'.wish hi (fun j hj => (ih j hj (by omega)).symm) e2
        rw [e1] at this
        cases this
end
/-- what holds ahead of switch k: K the literals kept -/
structure Kept (n : Nat) (p : List Say) (S : List Int) (k : Nat) (C : List Int) : Prop where
  closed : Closed p C
  untorn : Untorn C
  wish : ∀ y ∈ S, y ∈ C
  ok : ∀ y ∈ C, LitOk n y
  all : ∀ j : Nat, 1 ≤ j → j < k → (j : Int) ∈ C ∨ -(j : Int) ∈ C
  from' : ∀ x ∈ C, ∃ s, (s ∈ S ∨ (s ∈ C ∧ s ≠ 0 ∧ s.natAbs < k)) ∧ Rc p s x
  torn : ∀ j : Nat, 1 ≤ j → j < k → (j : Int) ∈ C → ∃ T, (∀ y ∈ T, y ∈ S ∨ (y ∈ C ∧ y ≠ 0 ∧ y.natAbs < j)) ∧ Torn p (T ++ [-(j : Int)])
section
variable {p : List Say} {n k : Nat} {S C : List Int} {a b x : Int} {w r : List Bool}
/-- a new set of kept literals, grown by one -/
theorem Kept.grow (h : Kept n p S k C) (hp : PileOk n p) (h1 : 1 ≤ k) (h2 : k ≤ n) {x : Int} (hx : x = (k : Int) ∨ x = -(k : Int)) {C' : List Int} (hm : ∀ y, y ∈ C' ↔ Rd2 p (C ++ [x]) y) (hu : Untorn C')
    (ht : x = (k : Int) → ∃ T, (∀ y ∈ T, y ∈ S ∨ (y ∈ C ∧ y ≠ 0 ∧ y.natAbs < k)) ∧ Torn p (T ++ [-(k : Int)])) (hk : (k : Int) ∉ C) (hk' : -(k : Int) ∉ C) : Kept n p S (k + 1) C' := by
  have sub : ∀ y ∈ C, y ∈ C' := fun y hy => (hm y).mpr (.of (List.mem_append_left _ hy))
  have xin : x ∈ C' := (hm x).mpr (.of (List.mem_append_right _ List.mem_cons_self))
  have okx : LitOk n x := by
    rcases hx with e | e
    · rw [e]; exact litOk_nat h1 h2
    · rw [e]; exact litOk_neg (litOk_nat h1 h2)
  refine ⟨fun a b ha s => (hm b).mpr (((hm a).mp ha).step s), hu, fun y hy => sub y (h.wish y hy), fun y hy => ((hm y).mp hy).ok hp fun z hz => ?_, fun j j1 j2 => ?_, fun y hy => ?_, fun j j1 j2 hj => ?_⟩
  · rw [List.mem_append, List.mem_singleton] at hz
    rcases hz with hz | hz
    · exact h.ok z hz
    · rw [hz]; exact okx
  · by_cases e : j < k
    · rcases h.all j j1 e with z | z
      · exact .inl (sub _ z)
      · exact .inr (sub _ z)
    · have e : j = k := by omega
      subst e
      rcases hx with e | e
      · exact .inl (by rw [← e]; exact xin)
      · exact .inr (by rw [← e]; exact xin)
  · obtain ⟨s, hs, rs⟩ := (hm y).mp hy
    rw [List.mem_append, List.mem_singleton] at hs
    rcases hs with hs | hs
    · obtain ⟨s2, hs2, r2⟩ := h.from' s hs
      refine ⟨s2, ?_, r2.trans rs⟩
      rcases hs2 with z | ⟨z1, z2, z3⟩
      · exact .inl z
      · exact .inr ⟨sub _ z1, z2, by omega⟩
    · subst hs
      exact ⟨s, .inr ⟨xin, okx.1, by omega⟩, rs⟩
  · by_cases e : j < k
    · have hjC : (j : Int) ∈ C := by
        rcases h.all j j1 e with z | z
        · exact z
        · exact (hu _ hj (sub _ z)).elim
      obtain ⟨T, t1, t2⟩ := h.torn j j1 e hjC
      refine ⟨T, fun y hy => ?_, t2⟩
      rcases t1 y hy with z | ⟨z1, z2, z3⟩
      · exact .inl z
      · exact .inr ⟨sub _ z1, z2, z3⟩
    · have e : j = k := by omega
      subst e
      have ex : x = (j : Int) := by
        rcases hx with e | e
        · exact e
        · rw [e] at xin
          exact (hu _ hj xin).elim
      obtain ⟨T, t1, t2⟩ := ht ex
      refine ⟨T, fun y hy => ?_, t2⟩
      rcases t1 y hy with z | ⟨z1, z2, z3⟩
      · exact .inl z
      · exact .inr ⟨sub _ z1, z2, z3⟩
/-- what tears beside the kept ones tears beside what they come from -/
theorem Kept.back (h : Kept n p S k C) {x : Int} (t : Torn p (C ++ [x])) : ∃ T, (∀ y ∈ T, y ∈ S ∨ (y ∈ C ∧ y ≠ 0 ∧ y.natAbs < k)) ∧ Torn p (T ++ [x]) := by
  refine ⟨S ++ C.filter fun y => decide (y ≠ 0 ∧ y.natAbs < k), fun y hy => ?_, t.sub fun y hy => ?_⟩
  · rw [List.mem_append, List.mem_filter, decide_eq_true_eq] at hy
    rcases hy with hy | ⟨h1, h2, h3⟩
    · exact .inl hy
    · exact .inr ⟨h1, h2, h3⟩
  · rw [List.mem_append, List.mem_singleton] at hy
    rcases hy with hy | hy
    · obtain ⟨s, hs, rs⟩ := h.from' y hy
      refine ⟨s, ?_, rs⟩
      rw [List.mem_append, List.mem_append, List.mem_filter, decide_eq_true_eq]
      rcases hs with hs | ⟨s1, s2, s3⟩
      · exact .inl (.inl hs)
      · exact .inl (.inr ⟨s1, s2, s3⟩)
    · rw [hy]
      exact .of (List.mem_append_right _ List.mem_cons_self)
/-- a switch that is decided already -/
theorem Kept.skip (h : Kept n p S k C) (h1 : 1 ≤ k) (h2 : k ≤ n) (hd : (k : Int) ∈ C ∨ -(k : Int) ∈ C) : Kept n p S (k + 1) C := by
  refine ⟨h.closed, h.untorn, h.wish, h.ok, fun j j1 j2 => ?_, fun y hy => ?_, fun j j1 j2 hj => ?_⟩
  · by_cases e : j < k
    · exact h.all j j1 e
    · have e : j = k := by omega
      subst e
      exact hd
  · obtain ⟨s, hs, rs⟩ := h.from' y hy
    refine ⟨s, ?_, rs⟩
    rcases hs with z | ⟨z1, z2, z3⟩
    · exact .inl z
    · exact .inr ⟨z1, z2, by omega⟩
  · by_cases e : j < k
    · exact h.torn j j1 e hj
    · have e : j = k := by omega
      subst e
      refine h.back ⟨(j : Int), .of (List.mem_append_left _ hj), .of (List.mem_append_right _ List.mem_cons_self)⟩
theorem Kept.start (hp : PileOk n p) (hS : ∀ y ∈ S, LitOk n y) (hm : ∀ y, y ∈ C ↔ Rd2 p S y) (hu : Untorn C) : Kept n p S 1 C := by
  refine ⟨fun a b ha s => (hm b).mpr (((hm a).mp ha).step s), hu, fun y hy => (hm y).mpr (.of hy), fun y hy => ((hm y).mp hy).ok hp hS, fun j j1 j2 => by omega, fun y hy => ?_, fun j j1 j2 => by omega⟩
  obtain ⟨s, hs, rs⟩ := (hm y).mp hy
  exact ⟨s, .inl hs, rs⟩
/-- behind the last switch: the first good setting -/
theorem Kept.first (h : Kept n p S (n + 1) C) (hp : PileOk n p) : First n p S (settingOf n C) := by
  have hd : ∀ a, LitOk n a → a ∈ C ∨ -a ∈ C := fun a ha => by
    have h0 := ha.1
    have h1 := ha.2
    have z := h.all a.natAbs (by omega) (by omega)
    by_cases e : 0 < a
    · rw [show ((a.natAbs : Nat) : Int) = a by omega] at z
      exact z
    · rw [show ((a.natAbs : Nat) : Int) = -a by omega, Int.neg_neg] at z
      exact z.symm
  have tr : ∀ {a}, LitOk n a → litT (settingOf n C) a = decide (a ∈ C) := fun {a} ha => litT_set C ha (hd a ha) fun z => h.untorn a z.1 z.2
  refine ⟨settingOf_len n C, set_good hp h.closed h.untorn hd, fun y hy => ?_, fun k k1 k2 hk => ?_⟩
  · have yc := h.wish y hy
    rw [tr (h.ok y yc), decide_eq_true yc]
  · rw [tr (litOk_nat k1 k2)] at hk
    have kc : (k : Int) ∈ C := of_decide_eq_true hk
    obtain ⟨T, t1, t2⟩ := h.torn k k1 (by omega) kc
    refine t2.sub fun y hy => ?_
    rw [List.mem_append, List.mem_singleton] at hy
    refine .of ?_
    rw [List.mem_append, List.mem_append, List.mem_singleton]
    rcases hy with hy | hy
    · rcases t1 y hy with z | ⟨z1, z2, z3⟩
      · exact .inl (.inl z)
      · refine .inl (.inr (mem_lits.mpr ⟨z2, by omega, ?_⟩))
        rw [tr (h.ok y z1), decide_eq_true z1]
    · exact .inr hy
end
end
end Px
namespace Px
open PySem L2
noncomputable section
theorem nodup_lt : ∀ (m : Nat) (l : List Nat), l.Nodup → (∀ x ∈ l, x < m) → l.length ≤ m
  | 0, l, _, h => by
    cases l with
    | nil => exact Nat.le_refl _
    | cons x r => exact absurd (h x List.mem_cons_self) (Nat.not_lt_zero x)
  | m + 1, l, nd, h => by
    have ih := nodup_lt m (l.erase m) (nd.erase m) fun x hx => by
      have h1 := h x (List.mem_of_mem_erase hx)
      have h2 : x ≠ m := fun e => by
        subst e
        exact (List.Nodup.not_mem_erase nd) hx
      omega
    have h2 : l.length ≤ (l.erase m).length + 1 := by
      by_cases c : m ∈ l
      · rw [List.length_erase_of_mem c]
        omega
      · rw [List.erase_of_not_mem c]
        omega
    omega
def litIx (x : Int) : Nat := if 0 < x then 2 * (x.natAbs - 1) else 2 * (x.natAbs - 1) + 1
theorem lits_len {n : Nat} {xs : List Int} (nd : xs.Nodup) (h : ∀ x ∈ xs, LitOk n x) : xs.length ≤ 2 * n := by
  have k := nodup_lt (2 * n) (xs.map litIx) ?_ ?_
  · rw [List.length_map] at k
    exact k
  · refine List.Pairwise.map _ (fun a b hab => ?_) (List.Pairwise.imp_of_mem (S := fun a b => a ≠ b ∧ a ≠ 0 ∧ b ≠ 0) (fun ha hb e => ⟨e, (h _ ha).1, (h _ hb).1⟩) nd)
    obtain ⟨e, a0, b0⟩ := hab
    unfold litIx
    split <;> split <;> omega
  · intro y hy
    obtain ⟨x, hx, e⟩ := List.mem_map.mp hy
    subst e
    have h0 := (h x hx).1
    have h1 := (h x hx).2
    unfold litIx
    split <;> omega
def addAll (acc xs : List Int) : List Int := xs.foldl (fun acc x => addIf true x acc) acc
theorem mem_addIf {c : Bool} {x y : Int} {acc : List Int} : y ∈ addIf c x acc ↔ y ∈ acc ∨ (c = true ∧ y = x) := by
  unfold addIf
  split
  · rename_i h
    rw [List.mem_append, List.mem_singleton]
    constructor
    · rintro (z | z)
      · exact .inl z
      · exact .inr ⟨h.1, z⟩
    · rintro (z | ⟨_, z⟩)
      · exact .inl z
      · exact .inr z
  · rename_i h
    constructor
    · exact .inl
    · rintro (z | ⟨hc, z⟩)
      · exact z
      · rw [z]
        exact Classical.byContradiction fun q => h ⟨hc, q⟩
theorem nodup_addIf {c : Bool} {x : Int} {acc : List Int} (h : acc.Nodup) : (addIf c x acc).Nodup := by
  unfold addIf
  split
  · rename_i k
    rw [List.nodup_append]
    refine ⟨h, List.nodup_cons.mpr ⟨List.not_mem_nil, List.nodup_nil⟩, fun a ha b hb e => ?_⟩
    rw [List.mem_singleton] at hb
    subst e
    rw [hb] at ha
    exact k.2 ha
  · exact h
theorem pre_addIf (c : Bool) (x : Int) (acc : List Int) : ∃ t, addIf c x acc = acc ++ t := by
  unfold addIf
  split
  · exact ⟨[x], rfl⟩
  · exact ⟨[], by rw [List.append_nil]⟩
theorem mem_addAll {y : Int} : ∀ {xs acc : List Int}, y ∈ addAll acc xs ↔ y ∈ acc ∨ y ∈ xs
  | [], acc => by simp [addAll]
  | x :: xs, acc => by
    show y ∈ addAll (addIf true x acc) xs ↔ _
    rw [mem_addAll, mem_addIf, List.mem_cons]
    simp only [true_and]
    exact or_assoc
theorem nodup_addAll : ∀ {xs acc : List Int}, acc.Nodup → (addAll acc xs).Nodup
  | [], acc, h => h
  | x :: xs, acc, h => nodup_addAll (xs := xs) (nodup_addIf h)
theorem pre_addAll : ∀ (xs acc : List Int), ∃ t, addAll acc xs = acc ++ t
  | [], acc => ⟨[], by rw [List.append_nil]; rfl⟩
  | x :: xs, acc => by
    obtain ⟨t1, e1⟩ := pre_addIf true x acc
    obtain ⟨t2, e2⟩ := pre_addAll xs (addIf true x acc)
    refine ⟨t1 ++ t2, ?_⟩
    show addAll (addIf true x acc) xs = _
    rw [e2, e1, List.append_assoc]
theorem mem_stepTurn {l x : Int} {acc : List Int} {s : Say} : x ∈ stepTurn l acc s ↔ x ∈ acc ∨ ((s.1 = -l ∧ s.2 = x) ∨ (s.2 = -l ∧ s.1 = x)) := by
  unfold stepTurn
  rw [mem_addIf, mem_addIf, decide_eq_true_eq, decide_eq_true_eq]
  constructor
  · rintro ((z | ⟨a, b⟩) | ⟨a, b⟩)
    · exact .inl z
    · exact .inr (.inl ⟨a, b.symm⟩)
    · exact .inr (.inr ⟨a, b.symm⟩)
  · rintro (z | ⟨a, b⟩ | ⟨a, b⟩)
    · exact .inl (.inl z)
    · exact .inl (.inr ⟨a, b.symm⟩)
    · exact .inr ⟨a, b.symm⟩
theorem mem_steps {p : List Say} {l x : Int} : x ∈ stepsFrom p l ↔ Step p l x := by
  have aux : ∀ (p : List Say) (acc : List Int), x ∈ p.foldl (stepTurn l) acc ↔ x ∈ acc ∨ Step p l x := fun p => by
    induction p with
    | nil =>
      intro acc
      constructor
      · exact .inl
      · rintro (z | ⟨s, hs, _⟩)
        · exact z
        · cases hs
    | cons s p ih =>
      intro acc
      rw [List.foldl_cons, ih, mem_stepTurn]
      constructor
      · rintro ((z | z) | ⟨s2, hs, z⟩)
        · exact .inl z
        · exact .inr ⟨s, List.mem_cons_self, z⟩
        · exact .inr ⟨s2, List.mem_cons_of_mem _ hs, z⟩
      · rintro (z | ⟨s2, hs, z⟩)
        · exact .inl (.inl z)
        · rcases List.mem_cons.mp hs with e | hs
          · subst e
            exact .inl (.inr z)
          · exact .inr ⟨s2, hs, z⟩
  unfold stepsFrom
  rw [aux]
  constructor
  · rintro (z | z)
    · cases z
    · exact z
  · exact .inr
theorem nodup_steps (p : List Say) (l : Int) : (stepsFrom p l).Nodup := by
  have aux : ∀ (p : List Say) (acc : List Int), acc.Nodup → (p.foldl (stepTurn l) acc).Nodup := fun p => by
    induction p with
    | nil => intro acc h; exact h
    | cons s p ih => intro acc h; exact ih _ (nodup_addIf (nodup_addIf h))
  exact aux p [] List.nodup_nil
theorem spread1 (d0 d1 : D) : ∀ (xs acc : List Int) (x y z : Option D), acc.length + xs.length < 900000 → ∃ x', forE (tgN 3) l_spread_1 (xs.map PyData.int) [some d0, some d1, some (.own (acc.map PyData.int)), x, y, z] =
    .next [some d0, some d1, some (.own ((addAll acc xs).map PyData.int)), x', y, z]
  | [], acc, x, y, z, _ => ⟨x, rfl⟩
  | v :: xs, acc, x, y, z, h => by
    rw [List.length_cons] at h
    have hl := addIf_len true v acc
    obtain ⟨x', e⟩ := spread1 d0 d1 xs (addIf true v acc) (some (.val (.int v))) y z (by omega)
    refine ⟨x', ?_⟩
    have b : l_spread_1 [some d0, some d1, some (.own (acc.map PyData.int)), some (.val (.int v)), y, z] = .next [some d0, some d1, some (.own ((addIf true v acc).map PyData.int)), some (.val (.int v)), y, z] := by
      unfold addIf
      by_cases c : v ∈ acc
      · simp [l_spread_1, c]
      · simp [l_spread_1, c, show acc.length < 1000000 by omega]
    rw [List.map_cons, forE_c]
    simp [b]
    exact e
theorem spread3 (d0 d1 : D) : ∀ (xs acc : List Int) (x y z : Option D), acc.length + xs.length < 900000 → ∃ z', forE (tgN 5) l_spread_3 (xs.map PyData.int) [some d0, some d1, some (.own (acc.map PyData.int)), x, y, z] =
    .next [some d0, some d1, some (.own ((addAll acc xs).map PyData.int)), x, y, z']
  | [], acc, x, y, z, _ => ⟨z, rfl⟩
  | v :: xs, acc, x, y, z, h => by
    rw [List.length_cons] at h
    have hl := addIf_len true v acc
    obtain ⟨x', e⟩ := spread3 d0 d1 xs (addIf true v acc) x y (some (.val (.int v))) (by omega)
    refine ⟨x', ?_⟩
    have b : l_spread_3 [some d0, some d1, some (.own (acc.map PyData.int)), x, y, some (.val (.int v))] = .next [some d0, some d1, some (.own ((addIf true v acc).map PyData.int)), x, y, some (.val (.int v))] := by
      unfold addIf
      by_cases c : v ∈ acc
      · simp [l_spread_3, c]
      · simp [l_spread_3, c, show acc.length < 1000000 by omega]
    rw [List.map_cons, forE_c]
    simp [b]
    exact e
theorem steps_len {n : Nat} {p : List Say} (hp : PileOk n p) (l : Int) : (stepsFrom p l).length ≤ 2 * n := lits_len (nodup_steps p l) fun x hx => (mem_steps.mp hx).ok hp
/-- what stands while it walks -/
structure SprI (n : Nat) (p : List Say) (S : List Int) (found : List Int) (at' : Nat) : Prop where
  nd : found.Nodup
  wish : ∀ y ∈ S, y ∈ found
  from' : ∀ y ∈ found, Rd2 p S y
  done : ∀ i y, i < at' → found[i]? = some y → ∀ z, Step p y z → z ∈ found
  le : at' ≤ found.length
theorem f_spread_ok {n : Nat} {p : List Say} {S : List Int} (hn : n ≤ 100) (hl : p.length ≤ 1000) (hp : PileOk n p) (hS : ∀ y ∈ S, LitOk n y) (hSl : S.length ≤ 1000) :
    ∃ C : List Int, f_spread [encP p, encI S] = .ok (.own (C.map PyData.int)) ∧ (∀ y, y ∈ C ↔ Rd2 p S y) ∧ C.length ≤ 2 * n := by
  obtain ⟨x1, e1⟩ := spread1 (.val (encP p)) (.val (encI S)) S [] none none none (by simp; omega)
  have post := while_ok (t := op2 ltP (varB 4) (op1 lenP (varB 2))) (g := l_spread_2)
    (fun m L => ∃ found at' z, SprI n p S found at' ∧ m = 2 * n - at' ∧ L = [some (.val (encP p)), some (.val (encI S)), some (.own (found.map PyData.int)), x1, some (.val (.int (at' : Nat))), z])
    (fun o => ∃ found at' z, SprI n p S found at' ∧ at' = found.length ∧ o = .next [some (.val (encP p)), some (.val (encI S)), some (.own (found.map PyData.int)), x1, some (.val (.int (at' : Nat))), z])
    (fun m L ⟨found, at', z, I, em, eL⟩ => by
      have fl : found.length ≤ 2 * n := lits_len I.nd fun y hy => (I.from' y hy).ok hp hS
      subst eL
      by_cases c : at' < found.length
      · refine .inr ⟨by simp [c], .inl ?_⟩
        have hx : found[at']? = some found[at'] := List.getElem?_eq_getElem c
        obtain ⟨z', e3⟩ := spread3 (.val (encP p)) (.val (encI S)) (stepsFrom p found[at']) found x1 (some (.val (.int (at' : Nat)))) z (by have := steps_len hp found[at']; omega)
        obtain ⟨t, et⟩ := pre_addAll (stepsFrom p found[at']) found
        refine ⟨_, 2 * n - (at' + 1), .inl ?_, by omega, addAll found (stepsFrom p found[at']), at' + 1, z', ⟨nodup_addAll I.nd, fun y hy => mem_addAll.mpr (.inl (I.wish y hy)), fun y hy => ?_, fun i y hi hy w s => ?_, ?_⟩, rfl, rfl⟩
        · have em2 : atI (found.map PyData.int) (at' : Int) = some (.int found[at']) := by
            rw [at_map', at_nat c]
            rfl
          simp [l_spread_2, em2, f_steps p _ hl, e3]
        · rcases mem_addAll.mp hy with hy | hy
          · exact I.from' y hy
          · exact (I.from' _ (List.getElem_mem c)).step (mem_steps.mp hy)
        · have hi2 : i < found.length := by omega
          rw [et, List.getElem?_append_left hi2] at hy
          by_cases ci : i = at'
          · subst ci
            rw [hx] at hy
            cases hy
            exact mem_addAll.mpr (.inr (mem_steps.mpr s))
          · exact mem_addAll.mpr (.inl (I.done i y (by omega) hy w s))
        · rw [et, List.length_append]
          omega
      · exact .inl ⟨by simp [c], found, at', z, I, by have := I.le; omega, rfl⟩)
    (2 * n) [some (.val (encP p)), some (.val (encI S)), some (.own ((addAll [] S).map PyData.int)), x1, some (.val (.int ((0 : Nat) : Int))), none] ⟨addAll [] S, 0, none, ⟨nodup_addAll List.nodup_nil, fun y hy => mem_addAll.mpr (.inr hy), fun y hy => ?_, fun i y hi => absurd hi (Nat.not_lt_zero i), Nat.zero_le _⟩, rfl, rfl⟩ (by omega)
  · obtain ⟨found, at', z, I, ea, eo⟩ := post
    have go : ∀ {s y : Int}, Rc p s y → s ∈ found → y ∈ found := fun {s y} r hs => by
      induction r with
      | refl => exact hs
      | tail _ st ih =>
        obtain ⟨i, hi, e⟩ := List.getElem_of_mem ih
        exact I.done i _ (by omega) (by rw [List.getElem?_eq_getElem hi, e]) _ st
    refine ⟨found, ?_, fun y => ⟨I.from' y, fun h => go h.choose_spec.2 (I.wish _ h.choose_spec.1)⟩, lits_len I.nd fun y hy => (I.from' y hy).ok hp hS⟩
    simp at e1
    simp at eo
    simp [f_spread, fnE, envOf, g_spread, e1, eo]
  · rcases mem_addAll.mp hy with h | h
    · cases h
    · exact .of h
def untornB (C : List Int) : Bool := C.all fun l => !decide (-l ∈ C)
theorem untorn_iff {C : List Int} : untornB C = true ↔ Untorn C := by
  unfold untornB Untorn
  rw [List.all_eq_true]
  constructor
  · intro h a ha hb
    have := h a ha
    rw [decide_eq_true hb] at this
    cases this
  · intro h a ha
    rw [decide_eq_false fun hb => h a ha hb]
    rfl
theorem untorn_no {C : List Int} (h : untornB C = false) : ∃ l, l ∈ C ∧ -l ∈ C := by
  unfold untornB at h
  rw [List.all_eq_false] at h
  obtain ⟨l, hl, hn⟩ := h
  refine ⟨l, hl, ?_⟩
  by_cases c : -l ∈ C
  · exact c
  · rw [decide_eq_false c] at hn
    exact absurd rfl hn
theorem f_peace (C : List Int) : f_peaceful [encI C] = .ok (.val (.bool (untornB C))) := by
  have k := forE_find (tg := tgN 1) (g := l_peaceful_1) (enc := PyData.int) (fun L => ∃ x, L = [some (.val (encI C)), x]) (fun l => decide (-l ∈ C)) (fun _ => .val (.bool false)) C [some (.val (encI C)), none] (fun a L _ ⟨x, e⟩ => by
    subst e
    refine ⟨[some (.val (encI C)), some (.val (.int a))], rfl, fun h => ?_, fun h => ⟨[some (.val (encI C)), some (.val (.int a))], .inl ?_, _, rfl⟩⟩
    · have h := of_decide_eq_true h
      simp [l_peaceful_1, h]
    · have h := of_decide_eq_false h
      simp [l_peaceful_1, h]) ⟨none, rfl⟩
  rcases k with ⟨a, ha, pa, e, _⟩ | ⟨hn, L', e, x, eL⟩
  · have hu : untornB C = false := by
      unfold untornB
      rw [List.all_eq_false]
      exact ⟨a, ha, by rw [pa]; decide⟩
    rw [hu]
    simp [f_peaceful, fnE, envOf, g_peaceful, e]
  · have hu : untornB C = true := by
      unfold untornB
      rw [List.all_eq_true]
      intro l hl
      rw [hn l hl]
      rfl
    rw [hu]
    subst eL
    simp [f_peaceful, fnE, envOf, g_peaceful, e]
end
end Px
namespace Px
open PySem L2
noncomputable section
/-- a comprehension without a test -/
theorem lcE_yes {j : Nat} {f : Env → R PD} {v : PD → PD} {L : Env} : ∀ (ds : List PD), (∀ d ∈ ds, f (setE L j (some (.val d))) = .ok (v d)) → lcE j yesT f ds L = .ok (ds.map v)
  | [], _ => rfl
  | d :: ds, h => by
    have ih := lcE_yes ds fun x hx => h x (List.mem_cons_of_mem _ hx)
    have h1 := h d List.mem_cons_self
    unfold lcE
    rw [h1, ih]
    rfl
/-- one with a test -/
theorem lcE_if {j : Nat} {t : Env → R Bool} {f : Env → R PD} {v : PD → PD} {p : PD → Bool} {L : Env} : ∀ (ds : List PD), (∀ d ∈ ds, t (setE L j (some (.val d))) = .ok (p d) ∧ f (setE L j (some (.val d))) = .ok (v d)) → lcE j t f ds L = .ok ((ds.filter p).map v)
  | [], _ => rfl
  | d :: ds, h => by
    have ih := lcE_if ds fun x hx => h x (List.mem_cons_of_mem _ hx)
    obtain ⟨h1, h2⟩ := h d List.mem_cons_self
    unfold lcE
    rw [h1, h2, ih]
    cases e : p d with
    | true =>
      rw [List.filter_cons_of_pos e]
      rfl
    | false =>
      rw [List.filter_cons_of_neg (by rw [e]; decide)]
      rfl
theorem lcR_ok' {j : Nat} {t : Env → R Bool} {f : Env → R PD} {ds ys : List PD} {L : Env} (hl : ds.length ≤ 1000000) (h : lcE j t f ds (setE L j none) = .ok ys) : lcR j t f ds L = .ok (.own ys) := by
  unfold lcR
  rw [cif_pos hl, h]
  rfl
@[simp] theorem lcRg_d (j : Nat) (fi : Env → R (List PD)) (t : Env → R Bool) (f : Env → R PD) (L : Env) : lcRg j fi t f L = ((fi L).bind rngP).bind fun ds => lcR j t f ds L := rfl
@[simp] theorem lcL_d (j : Nat) (fi : Env → R PD) (t : Env → R Bool) (f : Env → R PD) (L : Env) : lcL j fi t f L = (fi L).bind fun d => match d with | .list ds => lcR j t f ds L | _ => .bad := rfl
@[simp] theorem cat_II (a b : List Int) (h : a.length + b.length ≤ 1000000) : catP (encI a) (encI b) = .ok (.own ((a ++ b).map PyData.int)) := by
  show cif _ _ _ = _
  rw [cif_pos (by rw [List.length_map, List.length_map]; exact h), List.map_append]
theorem cat_I1 (a : List Int) (b : Int) (h : a.length ≤ 1000) : catP (encI a) (.list [.int b]) = .ok (.own ((a ++ [b]).map PyData.int)) := cat_II a [b] (by simp; omega)
theorem rng1n {n : Nat} (h : n ≤ 1000) : rngP [.int 1, .int ((n : Int) + 1)] = .ok (rng 1 n) := by
  rw [rng2 (by unfold small; omega) (by unfold small; omega), show ((n : Int) + 1 - 1).toNat = n by omega]
theorem torn_of {p : List Say} {T C : List Int} (hm : ∀ y, y ∈ C ↔ Rd2 p T y) (h : untornB C = false) : Torn p T := by
  obtain ⟨l, h1, h2⟩ := untorn_no h
  exact ⟨l, (hm l).mp h1, (hm _).mp h2⟩
abbrev lwEnv (n : Nat) (p : List Say) (S C : List Int) (x y : Option D) : Env := [some (.val (.int (n : Int))), some (.val (encP p)), some (.val (encI S)), some (.val (encI C)), x, y]
theorem lw_loop {n : Nat} {p : List Say} {S : List Int} (hn : n ≤ 100) (hl : p.length ≤ 1000) (hp : PileOk n p) : ∀ (m k : Nat) (C : List Int) (x y : Option D), 1 ≤ k → k + m = n + 1 → Kept n p S k C → C.length ≤ 200 →
    (∃ C' x' y', forE (tgN 4) l_least_with_1 (rng (k : Int) m) (lwEnv n p S C x y) = .next (lwEnv n p S C' x' y') ∧ Kept n p S (n + 1) C') ∨ (forE (tgN 4) l_least_with_1 (rng (k : Int) m) (lwEnv n p S C x y) = .ret (.val .none) ∧ Shut n p S)
  | 0, k, C, x, y, _, e, K, _ => .inl ⟨C, x, y, rfl, by rw [show n + 1 = k by omega]; exact K⟩
  | m + 1, k, C, x, y, k1, e, K, hC => by
    have k2 : k ≤ n := by omega
    rw [rng_s, forE_c]
    have go : ∀ {C' : List Int} {y' : Option D}, l_least_with_1 (lwEnv n p S C (some (.val (.int (k : Int)))) y) = .next (lwEnv n p S C' (some (.val (.int (k : Int)))) y') → Kept n p S (k + 1) C' → C'.length ≤ 200 →
        (∃ C' x' y', ((tgN 4 (.int (k : Int)) (lwEnv n p S C x y)).out fun L1 => (l_least_with_1 L1).turn fun L' => forE (tgN 4) l_least_with_1 (rng ((k : Int) + 1) m) L') = .next (lwEnv n p S C' x' y') ∧ Kept n p S (n + 1) C') ∨
        (((tgN 4 (.int (k : Int)) (lwEnv n p S C x y)).out fun L1 => (l_least_with_1 L1).turn fun L' => forE (tgN 4) l_least_with_1 (rng ((k : Int) + 1) m) L') = .ret (.val .none) ∧ Shut n p S) := by
      intro C' y' eb K' hC'
      have ih := lw_loop (S := S) hn hl hp m (k + 1) C' (some (.val (.int (k : Int)))) y' (by omega) (by omega) K' hC'
      have ek : (((k + 1 : Nat) : Int)) = (k : Int) + 1 := by omega
      rw [ek] at ih
      have e1 : ((tgN 4 (.int (k : Int)) (lwEnv n p S C x y)).out fun L1 => (l_least_with_1 L1).turn fun L' => forE (tgN 4) l_least_with_1 (rng ((k : Int) + 1) m) L') = (l_least_with_1 (lwEnv n p S C (some (.val (.int (k : Int)))) y)).turn fun L' => forE (tgN 4) l_least_with_1 (rng ((k : Int) + 1) m) L' := rfl
      rw [e1, eb]
      exact ih
    by_cases c1 : (k : Int) ∈ C
    · exact go (C' := C) (y' := y) (by simp [l_least_with_1, c1]) (K.skip k1 k2 (.inl c1)) hC
    · by_cases c2 : -(k : Int) ∈ C
      · exact go (C' := C) (y' := y) (by simp [l_least_with_1, c1, c2]) (K.skip k1 k2 (.inr c2)) hC
      · have okk := litOk_nat (n := n) k1 k2
        obtain ⟨C1, s1, m1, l1⟩ := f_spread_ok (S := C ++ [-(k : Int)]) hn hl hp (fun y hy => by
          rw [List.mem_append, List.mem_singleton] at hy
          rcases hy with hy | hy
          · exact K.ok y hy
          · rw [hy]; exact litOk_neg okk) (by rw [List.length_append, List.length_singleton]; omega)
        simp only [encI, List.map_append, List.map_cons, List.map_nil] at s1
        cases u1 : untornB C1 with
        | true => exact go (C' := C1) (y' := some (.val (encI C1))) (by simp [l_least_with_1, c1, c2, cat_I1 C _ (show C.length ≤ 1000 by omega), s1, f_peace, u1]) (K.grow hp k1 k2 (.inr rfl) m1 (untorn_iff.mp u1) (fun h => by omega) c1 c2) (by omega)
        | false =>
          have t1 := torn_of m1 u1
          obtain ⟨C2, s2, m2, l2⟩ := f_spread_ok (S := C ++ [(k : Int)]) hn hl hp (fun y hy => by
            rw [List.mem_append, List.mem_singleton] at hy
            rcases hy with hy | hy
            · exact K.ok y hy
            · rw [hy]; exact okk) (by rw [List.length_append, List.length_singleton]; omega)
          simp only [encI, List.map_append, List.map_cons, List.map_nil] at s2
          cases u2 : untornB C2 with
          | true => exact go (C' := C2) (y' := some (.val (encI C2))) (by simp [l_least_with_1, c1, c2, cat_I1 C _ (show C.length ≤ 1000 by omega), s1, s2, f_peace, u1, u2]) (K.grow hp k1 k2 (.inl rfl) m2 (untorn_iff.mp u2) (fun _ => K.back t1) c1 c2) (by omega)
          | false =>
            have t2 := torn_of m2 u2
            refine .inr ⟨?_, .inr ⟨k, k1, k2, ?_, try_road K.closed K.untorn c1 t1⟩⟩
            · have eb : l_least_with_1 (lwEnv n p S C (some (.val (.int (k : Int)))) y) = .ret (.val .none) := by simp [l_least_with_1, c1, c2, cat_I1 C _ (show C.length ≤ 1000 by omega), s1, s2, f_peace, u1, u2]
              have e1 : ((tgN 4 (.int (k : Int)) (lwEnv n p S C x y)).out fun L1 => (l_least_with_1 L1).turn fun L' => forE (tgN 4) l_least_with_1 (rng ((k : Int) + 1) m) L') = (l_least_with_1 (lwEnv n p S C (some (.val (.int (k : Int)))) y)).turn fun L' => forE (tgN 4) l_least_with_1 (rng ((k : Int) + 1) m) L' := rfl
              rw [e1, eb]
              rfl
            · have r := try_road (k := -(k : Int)) K.closed K.untorn c2 (by rw [Int.neg_neg]; exact t2)
              rw [Int.neg_neg] at r
              exact r
theorem f_lw {n : Nat} {p : List Say} {S : List Int} (hn : n ≤ 100) (hl : p.length ≤ 1000) (hp : PileOk n p) (hS : ∀ y ∈ S, LitOk n y) (hSl : S.length ≤ 1000) :
    (∃ r, First n p S r ∧ f_least_with [.int (n : Int), encP p, encI S] = .ok (.own (r.map PyData.bool))) ∨ (Shut n p S ∧ f_least_with [.int (n : Int), encP p, encI S] = .ok (.val .none)) := by
  obtain ⟨C, s, m, l⟩ := f_spread_ok hn hl hp hS hSl
  cases u : untornB C with
  | false =>
    refine .inr ⟨.inl (torn_of m u), ?_⟩
    simp [f_least_with, fnE, envOf, g_least_with, s, f_peace, u]
  | true =>
    have K := Kept.start hp hS m (untorn_iff.mp u)
    rcases lw_loop hn hl hp n 1 C none none (Nat.le_refl 1) (by omega) K (by omega) with ⟨C', x', y', e, K'⟩ | ⟨e, sh⟩
    · refine .inl ⟨settingOf n C', K'.first hp, ?_⟩
      have e : forE (tgN 4) l_least_with_1 (rng 1 n) (lwEnv n p S C none none) = .next (lwEnv n p S C' x' y') := e
      have lc : lcR 4 yesT (bvE (op2 (inP false) (varB 4) (varB 3))) (rng 1 n) (lwEnv n p S C' x' y') = .ok (.own ((settingOf n C').map PyData.bool)) := by
        have h := lcE_yes (j := 4) (f := bvE (op2 (inP false) (varB 4) (varB 3))) (L := setE (lwEnv n p S C' x' y') 4 none) (v := fun d => match d with | .int i => .bool (decide (i ∈ C')) | _ => .none) (rng 1 n) (fun d hd => by
          unfold rng at hd
          obtain ⟨i, _, ei⟩ := List.mem_map.mp hd
          subst ei
          simp)
        refine lcR_ok' (by rw [rng_len]; omega) ?_
        rw [h]
        unfold rng settingOf
        rw [List.map_map, List.map_map]
        congr 1
        refine List.map_congr_left fun i _ => ?_
        show PyData.bool _ = PyData.bool _
        rw [Int.add_comm]
      simp [f_least_with, fnE, envOf, g_least_with, s, f_peace, u, rng1n (show n ≤ 1000 by omega), e, lc]
    · refine .inr ⟨sh, ?_⟩
      have e : forE (tgN 4) l_least_with_1 (rng 1 n) (lwEnv n p S C none none) = .ret (.val .none) := e
      simp [f_least_with, fnE, envOf, g_least_with, s, f_peace, u, rng1n (show n ≤ 1000 by omega), e]
theorem f_least_ok {n : Nat} {p : List Say} (hn : n ≤ 100) (hl : p.length ≤ 1000) (hp : PileOk n p) :
    (∃ r, First n p [] r ∧ f_least [.int (n : Int), encP p] = .ok (.own (r.map PyData.bool))) ∨ (Shut n p [] ∧ f_least [.int (n : Int), encP p] = .ok (.val .none)) := by
  rcases f_lw (S := []) hn hl hp (fun y hy => by cases hy) (by simp) with ⟨r, F, e⟩ | ⟨s, e⟩
  · refine .inl ⟨r, F, ?_⟩
    simp only [encI, List.map_nil] at e
    simp [f_least, fnE, envOf, g_least, e]
  · refine .inr ⟨s, ?_⟩
    simp only [encI, List.map_nil] at e
    simp [f_least, fnE, envOf, g_least, e]
theorem rngC_s (lo : Int) (m : Nat) : rngC lo (-1) (m + 1) = .int lo :: rngC (lo - 1) (-1) m := by
  unfold rngC
  rw [List.range_succ_eq_map, List.map_cons, List.map_map]
  congr 1
  · congr 1
    omega
  · refine List.map_congr_left fun i _ => ?_
    show PyData.int _ = PyData.int _
    congr 1
    show lo + ((i + 1 : Nat) : Int) * -1 = lo - 1 + (i : Int) * -1
    omega
theorem litsOf_ok {n m : Nat} (h : m ≤ n) (w : List Bool) : ∀ y ∈ litsOf w m, LitOk n y := fun y hy => by
  obtain ⟨h0, h1, _⟩ := mem_lits.mp hy
  exact ⟨h0, by omega⟩
theorem litsOf_len (w : List Bool) (m : Nat) : (litsOf w m).length = m := by
  unfold litsOf
  rw [List.length_map, List.length_range]
theorem bits_at {w : List Bool} {i : Nat} (h : i < w.length) : atI (w.map PyData.bool) (1 + (i : Int) - 1) = some (.bool (w.getD i false)) := by
  rw [show (1 + (i : Int) - 1) = (i : Int) by omega, at_map', at_nat h]
  simp [h]
theorem lits_lc {w : List Bool} {L : Env} {j m : Nat} {f : Env → R PD} (hm : m ≤ w.length) (hw : w.length ≤ 1000) (h : ∀ i : Nat, i < m → f (setE (setE L j none) j (some (.val (.int (1 + (i : Int)))))) = .ok (.int (if w.getD i false = true then (i : Int) + 1 else -((i : Int) + 1)))) :
    lcR j yesT f (rng 1 m) L = .ok (.own ((litsOf w m).map PyData.int)) := by
  have k := lcE_yes (j := j) (f := f) (L := setE L j none) (v := fun d => match d with | .int i => .int (if w.getD (i - 1).toNat false = true then i else -i) | _ => .none) (rng 1 m) (fun d hd => by
    unfold rng at hd
    obtain ⟨i, hi, ei⟩ := List.mem_map.mp hd
    subst ei
    rw [h i (List.mem_range.mp hi)]
    show R.ok (PyData.int _) = R.ok (PyData.int _)
    rw [show (1 + (i : Int) - 1).toNat = i by omega, Int.add_comm 1 (i : Int)])
  refine lcR_ok' (by rw [rng_len]; omega) ?_
  rw [k]
  unfold rng litsOf
  rw [List.map_map, List.map_map]
  congr 1
  refine List.map_congr_left fun i _ => ?_
  show PyData.int _ = PyData.int _
  rw [show (1 + (i : Int) - 1).toNat = i by omega, Int.add_comm 1 (i : Int)]
theorem rng1k {k : Nat} (h1 : 1 ≤ k) (h : k ≤ 1000) : rngP [.int 1, .int (k : Int)] = .ok (rng 1 (k - 1)) := by
  rw [rng2 (by unfold small; omega) (by unfold small; omega), show ((k : Int) - 1).toNat = k - 1 by omega]
/-- what is told of the good settings behind w: at the switches up to m -/
def NextAt (n : Nat) (p : List Say) (w : List Bool) (m : Nat) : Option (List Bool) → Prop
  | none => ∀ j : Nat, 1 ≤ j → j ≤ m → w.getD (j - 1) false = false → Shut n p (litsOf w (j - 1) ++ [(j : Int)])
  | some r => ∃ k : Nat, 1 ≤ k ∧ k ≤ m ∧ w.getD (k - 1) false = false ∧ First n p (litsOf w (k - 1) ++ [(k : Int)]) r ∧ ∀ j : Nat, k < j → j ≤ m → w.getD (j - 1) false = false → Shut n p (litsOf w (j - 1) ++ [(j : Int)])
abbrev ngEnv (n : Nat) (p : List Say) (w : List Bool) (a b c d : Option D) : Env := [some (.val (.int (n : Int))), some (.val (encP p)), some (.val (encB w)), a, b, c, d]
theorem ng_loop {n : Nat} {p : List Say} {w : List Bool} (hn : n ≤ 100) (hl : p.length ≤ 1000) (hp : PileOk n p) (hw : w.length = n) : ∀ (m : Nat) (a b c d : Option D), m ≤ n →
    (NextAt n p w m none ∧ ∃ a' b' c' d', forE (tgN 3) l_next_good_1 (rngC (m : Int) (-1) m) (ngEnv n p w a b c d) = .next (ngEnv n p w a' b' c' d')) ∨
    ∃ r, NextAt n p w m (some r) ∧ forE (tgN 3) l_next_good_1 (rngC (m : Int) (-1) m) (ngEnv n p w a b c d) = .ret (.val (encB r))
  | 0, a, b, c, d, _ => .inl ⟨fun j j1 j2 => by omega, a, b, c, d, rfl⟩
  | m + 1, a, b, c, d, hm => by
    rw [rngC_s, forE_c]
    have em : ((m + 1 : Nat) : Int) - 1 = (m : Int) := by omega
    rw [em]
    obtain ⟨k, hk⟩ : ∃ k : Nat, k = m + 1 := ⟨_, rfl⟩
    rw [← hk]
    have k1 : 1 ≤ k := by omega
    have kn : k ≤ n := by omega
    have e1 : ∀ L2 : Out, l_next_good_1 (ngEnv n p w (some (.val (.int (k : Int)))) b c d) = L2 → ((tgN 3 (.int (k : Int)) (ngEnv n p w a b c d)).out fun L1 => (l_next_good_1 L1).turn fun L' => forE (tgN 3) l_next_good_1 (rngC (m : Int) (-1) m) L') =
        L2.turn fun L' => forE (tgN 3) l_next_good_1 (rngC (m : Int) (-1) m) L' := fun L2 e => by rw [← e]; rfl
    have ix : atI (w.map PyData.bool) ((k : Int) - 1) = some (.bool (w.getD m false)) := by
      have := bits_at (w := w) (i := m) (by omega)
      rw [show (1 + (m : Int) - 1) = (k : Int) - 1 by omega] at this
      exact this
    have go : ∀ {b' c' d' : Option D}, l_next_good_1 (ngEnv n p w (some (.val (.int (k : Int)))) b c d) = .next (ngEnv n p w (some (.val (.int (k : Int)))) b' c' d') → (w.getD m false = false → Shut n p (litsOf w m ++ [(k : Int)])) →
        (NextAt n p w k none ∧ ∃ a' b' c' d', ((tgN 3 (.int (k : Int)) (ngEnv n p w a b c d)).out fun L1 => (l_next_good_1 L1).turn fun L' => forE (tgN 3) l_next_good_1 (rngC (m : Int) (-1) m) L') = .next (ngEnv n p w a' b' c' d')) ∨
        ∃ r, NextAt n p w k (some r) ∧ ((tgN 3 (.int (k : Int)) (ngEnv n p w a b c d)).out fun L1 => (l_next_good_1 L1).turn fun L' => forE (tgN 3) l_next_good_1 (rngC (m : Int) (-1) m) L') = .ret (.val (encB r)) := by
      intro b' c' d' eb hs
      rw [e1 _ eb]
      rcases ng_loop hn hl hp hw m (some (.val (.int (k : Int)))) b' c' d' (by omega) with ⟨h, r⟩ | ⟨r, ⟨i, i1, i2, i3, i4, i5⟩, er⟩
      · refine .inl ⟨fun j j1 j2 off => ?_, r⟩
        by_cases ej : j = k
        · subst ej
          rw [show j - 1 = m by omega] at off ⊢
          exact hs off
        · exact h j j1 (by omega) off
      · refine .inr ⟨r, ⟨i, i1, by omega, i3, i4, fun j j1 j2 off => ?_⟩, er⟩
        by_cases ej : j = k
        · subst ej
          rw [show j - 1 = m by omega] at off ⊢
          exact hs off
        · exact i5 j j1 (by omega) off
    cases cw : w.getD m false with
    | true =>
      rw [cw] at ix
      exact go (b' := b) (c' := c) (d' := d) (by simp [l_next_good_1, ix]) (fun h => by rw [cw] at h; cases h)
    | false =>
      rw [cw] at ix
      have lc : ∀ x : Option D, lcR 5 yesT (iteE (op1 asB (op2 ixP (varB 2) (op2 subP (varB 5) (constE (.int 1))))) (varE 5) (op1 negP (varB 5))) (rng 1 m) (ngEnv n p w (some (.val (.int (k : Int)))) b c x) = .ok (.own ((litsOf w m).map PyData.int)) := fun x =>
        lits_lc (by omega) (by omega) fun i hi => by
          have := bits_at (w := w) (i := i) (by omega)
          simp [this]
          cases w[i]?.getD false <;> simp <;> omega
      have hS : ∀ y ∈ litsOf w m ++ [(k : Int)], LitOk n y := fun y hy => by
        rw [List.mem_append, List.mem_singleton] at hy
        rcases hy with hy | hy
        · exact litsOf_ok (by omega) w y hy
        · rw [hy]; exact litOk_nat k1 kn
      have ct := cat_I1 (litsOf w m) (k : Int) (by rw [litsOf_len]; omega)
      have rg : rngP [.int 1, .int (k : Int)] = .ok (rng 1 m) := by
        rw [show m = k - 1 by omega]
        exact rng1k (by omega) (by omega)
      rcases f_lw (S := litsOf w m ++ [(k : Int)]) hn hl hp hS (by rw [List.length_append, litsOf_len, List.length_singleton]; omega) with ⟨r, F, er⟩ | ⟨s, er⟩
      · refine .inr ⟨r, ⟨k, by omega, Nat.le_refl _, by rw [show k - 1 = m by omega]; exact cw, by rw [show k - 1 = m by omega]; exact F, fun j j1 j2 => by omega⟩, ?_⟩
        have eb : l_next_good_1 (ngEnv n p w (some (.val (.int (k : Int)))) b c d) = .ret (.val (encB r)) := by
          simp only [encI, List.map_append, List.map_cons, List.map_nil] at er ct
          simp [l_next_good_1, ix, rg, lc, ct, er]
        rw [e1 _ eb]
        rfl
      · refine go (b' := some (.val (encI (litsOf w m)))) (c' := c) (d' := some (.val .none)) ?_ (fun _ => s)
        simp only [encI, List.map_append, List.map_cons, List.map_nil] at er ct
        simp [l_next_good_1, ix, rg, lc, ct, er]
theorem f_ng {n : Nat} {p : List Say} {w : List Bool} (hn : n ≤ 100) (hl : p.length ≤ 1000) (hp : PileOk n p) (hw : w.length = n) :
    (NextAt n p w n none ∧ f_next_good [.int (n : Int), encP p, encB w] = .ok (.val .none)) ∨ ∃ r, NextAt n p w n (some r) ∧ f_next_good [.int (n : Int), encP p, encB w] = .ok (.val (encB r)) := by
  have rg : rngP [.int (n : Int), .int 0, .int (-1)] = .ok (rngC (n : Int) (-1) n) := by
    rw [rng3 (by unfold small; omega) (by unfold small; omega), show ((n : Int) - 0).toNat = n by omega]
  rcases ng_loop hn hl hp hw n none none none none (Nat.le_refl n) with ⟨h, a, b, c, d, e⟩ | ⟨r, h, e⟩
  · refine .inl ⟨h, ?_⟩
    simp [f_next_good, fnE, envOf, g_next_good, rg, e]
  · refine .inr ⟨r, h, ?_⟩
    simp [f_next_good, fnE, envOf, g_next_good, rg, e]
end
end Px
namespace Px
open PySem L2
noncomputable section
def lst (w : List Int) : Int := w.getLastD 0
/-- a list each next literal of which a step leads to -/
structure IsRoad (p : List Say) (w : List Int) : Prop where
  ne : w ≠ []
  step : ∀ (i : Nat) (a b : Int), w[i]? = some a → w[i + 1]? = some b → Step p a b
inductive Rn (p : List Say) : Nat → Int → Int → Prop
  | refl (a : Int) : Rn p 0 a a
  | tail {d : Nat} {a b c : Int} : Rn p d a b → Step p b c → Rn p (d + 1) a c
theorem Rn.rc {p : List Say} {d : Nat} {a b : Int} (h : Rn p d a b) : Rc p a b := by
  induction h with
  | refl => exact .refl _
  | tail _ s ih => exact .tail ih s
theorem Rc.rn {p : List Say} {a b : Int} (h : Rc p a b) : ∃ d, Rn p d a b := by
  induction h with
  | refl => exact ⟨0, .refl _⟩
  | tail _ s ih =>
    obtain ⟨d, r⟩ := ih
    exact ⟨d + 1, .tail r s⟩
theorem lst_app (w : List Int) (x : Int) : lst (w ++ [x]) = x := by
  unfold lst
  rw [List.getLastD_eq_getLast?, List.getLast?_concat]
  rfl
theorem lst_of {w : List Int} (h : w ≠ []) : w.getLast? = some (lst w) := by
  unfold lst
  rw [List.getLastD_eq_getLast?, List.getLast?_eq_some_getLast h]
  rfl
theorem lst_at {w : List Int} (h : w ≠ []) : w[w.length - 1]? = some (lst w) := by
  rw [← List.getLast?_eq_getElem?]
  exact lst_of h
theorem IsRoad.app {p : List Say} {w : List Int} {x : Int} (h : IsRoad p w) (s : Step p (lst w) x) : IsRoad p (w ++ [x]) := by
  refine ⟨by simp, fun i a b ha hb => ?_⟩
  by_cases c : i + 1 < w.length
  · rw [List.getElem?_append_left (by omega)] at ha hb
    exact h.step i a b ha hb
  · by_cases c2 : i + 1 = w.length
    · rw [List.getElem?_append_left (by omega)] at ha
      rw [List.getElem?_append_right (by omega), show i + 1 - w.length = 0 by omega] at hb
      have h1 := lst_at h.ne
      rw [show w.length - 1 = i by omega, ha] at h1
      cases h1
      cases hb
      exact s
    · rw [List.getElem?_eq_none (by rw [List.length_append, List.length_singleton]; omega)] at hb
      cases hb
theorem IsRoad.rc {p : List Say} {w : List Int} (h : IsRoad p w) {a : Int} (ha : w.head? = some a) : ∀ (i : Nat) (b : Int), w[i]? = some b → Rc p a b
  | 0, b, hb => by
    rw [List.head?_eq_getElem?, hb] at ha
    cases ha
    exact .refl _
  | i + 1, b, hb => by
    have hlt : i + 1 < w.length := (List.getElem?_eq_some_iff.mp hb).1
    have hi : w[i]? = some w[i] := List.getElem?_eq_getElem (by omega)
    exact .tail (IsRoad.rc h ha i _ hi) (h.step i _ b hi hb)
theorem Rn.closed {p : List Say} {L : Int → Prop} (hc : ∀ y z, L y → Step p y z → L z) {d : Nat} {a b : Int} (r : Rn p d a b) (h0 : L a) : L b := by
  induction r with
  | refl => exact h0
  | tail _ s ih => exact hc _ _ (ih h0) s
def bfsTurn (way : List Int) (ws : List (List Int)) (x : Int) : List (List Int) := if x ∈ ws.map lst then ws else ws ++ [way ++ [x]]
def bfsAll (way : List Int) (ws : List (List Int)) (xs : List Int) : List (List Int) := xs.foldl (bfsTurn way) ws
theorem bfs_pre (way : List Int) : ∀ (xs : List Int) (ws : List (List Int)), ∃ t, bfsAll way ws xs = ws ++ t ∧ ∀ w ∈ t, ∃ x ∈ xs, w = way ++ [x]
  | [], ws => ⟨[], by rw [List.append_nil]; rfl, fun w h => by cases h⟩
  | x :: xs, ws => by
    obtain ⟨t, e, h⟩ := bfs_pre way xs (bfsTurn way ws x)
    have e : bfsAll way ws (x :: xs) = bfsTurn way ws x ++ t := e
    unfold bfsTurn at e
    split at e
    · exact ⟨t, e, fun w hw => let ⟨y, hy, r⟩ := h w hw; ⟨y, List.mem_cons_of_mem _ hy, r⟩⟩
    · refine ⟨(way ++ [x]) :: t, by rw [e, List.append_assoc]; rfl, fun w hw => ?_⟩
      rcases List.mem_cons.mp hw with hw | hw
      · exact ⟨x, List.mem_cons_self, hw⟩
      · obtain ⟨y, hy, r⟩ := h w hw
        exact ⟨y, List.mem_cons_of_mem _ hy, r⟩
theorem bfs_mem (way : List Int) {y : Int} : ∀ (xs : List Int) (ws : List (List Int)), y ∈ (bfsAll way ws xs).map lst ↔ y ∈ ws.map lst ∨ y ∈ xs
  | [], ws => by simp [bfsAll]
  | x :: xs, ws => by
    show y ∈ (bfsAll way (bfsTurn way ws x) xs).map lst ↔ _
    rw [bfs_mem way xs, List.mem_cons]
    unfold bfsTurn
    split
    · rename_i h
      constructor
      · rintro (z | z)
        · exact .inl z
        · exact .inr (.inr z)
      · rintro (z | z | z)
        · exact .inl z
        · rw [z]; exact .inl h
        · exact .inr z
    · rw [List.map_append, List.mem_append, List.map_singleton, List.mem_singleton, lst_app]
      exact or_assoc
theorem bfs_nd (way : List Int) : ∀ (xs : List Int) (ws : List (List Int)), (ws.map lst).Nodup → ((bfsAll way ws xs).map lst).Nodup
  | [], ws, h => h
  | x :: xs, ws, h => by
    refine bfs_nd way xs (bfsTurn way ws x) ?_
    unfold bfsTurn
    split
    · exact h
    · rename_i k
      rw [List.map_append, List.map_singleton, lst_app, List.nodup_append]
      refine ⟨h, List.nodup_cons.mpr ⟨List.not_mem_nil, List.nodup_nil⟩, fun a ha b hb e => ?_⟩
      rw [List.mem_singleton] at hb
      subst e
      rw [hb] at ha
      exact k ha
structure Bfs (p : List Say) (start goal : Int) (ws : List (List Int)) (at' : Nat) : Prop where
  road : ∀ w ∈ ws, IsRoad p w ∧ w.head? = some start
  nd : (ws.map lst).Nodup
  le : at' ≤ ws.length
  done : ∀ (i : Nat) w, i < at' → ws[i]? = some w → ∀ z, Step p (lst w) z → z ∈ ws.map lst
  ng : ∀ (i : Nat) w, i < at' → ws[i]? = some w → lst w ≠ goal
  mono : ∀ (i j : Nat) w v, i ≤ j → ws[i]? = some w → ws[j]? = some v → w.length ≤ v.length
  up : ∀ (j : Nat) w v, ws[at']? = some w → ws[j]? = some v → v.length ≤ w.length + 1
  len : ∀ (i : Nat) w, ws[i]? = some w → w.length ≤ i + 1
  dist : ∀ d x, Rn p d start x → (∃ w ∈ ws, lst w = x ∧ w.length ≤ d + 1) ∨ ∃ w, ws[at']? = some w ∧ w.length ≤ d
section
variable {p : List Say} {start goal : Int} {ws : List (List Int)} {at' : Nat}
theorem Bfs.start' : Bfs p start goal [[start]] 0 := by
  refine ⟨fun w hw => ?_, ?_, Nat.zero_le _, fun i w h => absurd h (Nat.not_lt_zero i), fun i w h => absurd h (Nat.not_lt_zero i), fun i j w v _ h1 h2 => ?_, fun j w v h1 h2 => ?_, fun i w h => ?_, fun d x r => ?_⟩
  · rw [List.mem_singleton] at hw
    subst hw
    exact ⟨⟨by simp, fun i a b _ hb => by simp at hb⟩, rfl⟩
  · exact List.nodup_cons.mpr ⟨List.not_mem_nil, List.nodup_nil⟩
  · cases i with
    | succ i => simp at h1
    | zero =>
      cases j with
      | succ j => simp at h2
      | zero =>
        cases h1
        cases h2
        exact Nat.le_refl _
  · cases j with
    | succ j => simp at h2
    | zero =>
      cases h1
      cases h2
      exact Nat.le_succ _
  · cases i with
    | succ i => simp at h
    | zero =>
      cases h
      exact Nat.le_refl _
  · cases r with
    | refl => exact .inl ⟨[start], List.mem_cons_self, rfl, Nat.le_refl _⟩
    | tail r s => exact .inr ⟨[start], rfl, by simp⟩
theorem Bfs.next (B : Bfs p start goal ws at') {w0 : List Int} (h0 : ws[at']? = some w0) (hg : lst w0 ≠ goal) : Bfs p start goal (bfsAll w0 ws (stepsFrom p (lst w0))) (at' + 1) := by
  obtain ⟨t, et, ht⟩ := bfs_pre w0 (stepsFrom p (lst w0)) ws
  have lt0 : at' < ws.length := (List.getElem?_eq_some_iff.mp h0).1
  have m0 : w0 ∈ ws := List.mem_of_getElem? h0
  obtain ⟨R0, H0⟩ := B.road w0 m0
  have inl : ∀ {i : Nat} {w : List Int}, i < ws.length → (bfsAll w0 ws (stepsFrom p (lst w0)))[i]? = some w → ws[i]? = some w := fun {i w} hi h => by
    rw [et, List.getElem?_append_left hi] at h
    exact h
  have inr : ∀ {i : Nat} {w : List Int}, ¬ i < ws.length → (bfsAll w0 ws (stepsFrom p (lst w0)))[i]? = some w → w ∈ t := fun {i w} hi h => by
    rw [et, List.getElem?_append_right (by omega)] at h
    exact List.mem_of_getElem? h
  have tl : ∀ {w}, w ∈ t → w.length = w0.length + 1 := fun {w} hw => by
    obtain ⟨x, _, e⟩ := ht w hw
    rw [e, List.length_append, List.length_singleton]
  have keep : ∀ {i : Nat} {w : List Int}, ws[i]? = some w → (bfsAll w0 ws (stepsFrom p (lst w0)))[i]? = some w := fun {i w} h => by
    rw [et, List.getElem?_append_left (List.getElem?_eq_some_iff.mp h).1]
    exact h
  have sub : ∀ {y}, y ∈ ws.map lst → y ∈ (bfsAll w0 ws (stepsFrom p (lst w0))).map lst := fun {y} h => (bfs_mem w0 _ _).mpr (.inl h)
  have len1 : ∀ {w}, w ∈ bfsAll w0 ws (stepsFrom p (lst w0)) → w.length ≤ w0.length + 1 := fun {w} hw => by
    rw [et, List.mem_append] at hw
    rcases hw with hw | hw
    · obtain ⟨j, hj⟩ := List.mem_iff_getElem?.mp hw
      exact B.up j w0 w h0 hj
    · rw [tl hw]
      exact Nat.le_refl _
  have done' : ∀ (i : Nat) w, i < at' + 1 → (bfsAll w0 ws (stepsFrom p (lst w0)))[i]? = some w → ∀ z, Step p (lst w) z → z ∈ (bfsAll w0 ws (stepsFrom p (lst w0))).map lst := fun i w hi h z s => by
    have h := inl (by omega) h
    by_cases c : i = at'
    · subst c
      rw [h0] at h
      cases h
      exact (bfs_mem w0 _ _).mpr (.inr (mem_steps.mpr s))
    · exact sub (B.done i w (by omega) h z s)
  have mono' : ∀ (i j : Nat) w v, i ≤ j → (bfsAll w0 ws (stepsFrom p (lst w0)))[i]? = some w → (bfsAll w0 ws (stepsFrom p (lst w0)))[j]? = some v → w.length ≤ v.length := fun i j w v hij h1 h2 => by
    by_cases c2 : j < ws.length
    · exact B.mono i j w v hij (inl (by omega) h1) (inl c2 h2)
    · rw [tl (inr c2 h2)]
      exact len1 (List.mem_of_getElem? h1)
  refine ⟨fun w hw => ?_, bfs_nd w0 _ _ B.nd, by rw [et, List.length_append]; omega, done', fun i w hi h => ?_, mono', fun j w v h1 h2 => ?_, fun i w h => ?_, fun d x r => ?_⟩
  · rw [et, List.mem_append] at hw
    rcases hw with hw | hw
    · exact B.road w hw
    · obtain ⟨x, hx, e⟩ := ht w hw
      subst e
      refine ⟨R0.app (mem_steps.mp hx), ?_⟩
      cases w0 with
      | nil => exact absurd rfl R0.ne
      | cons a r => exact H0
  · have h := inl (by omega) h
    by_cases c : i = at'
    · subst c
      rw [h0] at h
      cases h
      exact hg
    · exact B.ng i w (by omega) h
  · have a := mono' at' (at' + 1) w0 w (Nat.le_succ _) (keep h0) h1
    have b := len1 (List.mem_of_getElem? h2)
    omega
  · by_cases c : i < ws.length
    · exact B.len i w (inl c h)
    · rw [tl (inr c h)]
      have := B.len at' w0 h0
      omega
  · rcases B.dist d x r with ⟨w, hw, e, hl⟩ | ⟨w, hw, hl⟩
    · refine .inl ⟨w, ?_, e, hl⟩
      rw [et]
      exact List.mem_append_left _ hw
    · rw [h0] at hw
      cases hw
      cases e1 : (bfsAll w0 ws (stepsFrom p (lst w0)))[at' + 1]? with
      | some v =>
        by_cases c : v.length ≤ d
        · exact .inr ⟨v, rfl, c⟩
        · have hv := len1 (List.mem_of_getElem? e1)
          have hw0 : 0 < w0.length := List.length_pos_iff.mpr R0.ne
          cases r with
          | refl => exact absurd hl (by omega)
          | @tail d a b c' r s =>
            rcases B.dist d b r with ⟨u, hu, eu, hul⟩ | ⟨u, hu, hul⟩
            · obtain ⟨i, hi⟩ := List.mem_iff_getElem?.mp hu
              have hlt : i < at' + 1 := by
                refine Classical.byContradiction fun q => ?_
                have := mono' (at' + 1) i v u (by omega) e1 (keep hi)
                omega
              have hx := done' i u hlt (keep hi) x (by rw [eu]; exact s)
              obtain ⟨y, hy, ey⟩ := List.mem_map.mp hx
              exact .inl ⟨y, hy, ey, by have := len1 hy; omega⟩
            · rw [h0] at hu
              cases hu
              omega
      | none =>
        have hend : (bfsAll w0 ws (stepsFrom p (lst w0))).length ≤ at' + 1 := List.getElem?_eq_none_iff.mp e1
        have s0 : start ∈ (bfsAll w0 ws (stepsFrom p (lst w0))).map lst := by
          obtain ⟨w, hw, e, _⟩ | ⟨w, hw, hl⟩ := B.dist 0 start (.refl _)
          · exact sub (List.mem_map.mpr ⟨w, hw, e⟩)
          · have := List.length_pos_iff.mpr (B.road w (List.mem_of_getElem? hw)).1.ne
            omega
        have all := Rn.closed (L := fun y => y ∈ (bfsAll w0 ws (stepsFrom p (lst w0))).map lst) (fun y z ih s => by
          obtain ⟨w, hw, e⟩ := List.mem_map.mp ih
          obtain ⟨i, hi⟩ := List.mem_iff_getElem?.mp hw
          have := (List.getElem?_eq_some_iff.mp hi).1
          exact done' i w (by omega) hi _ (by rw [e]; exact s)) r s0
        obtain ⟨y, hy, ey⟩ := List.mem_map.mp all
        exact .inl ⟨y, hy, ey, by have := len1 hy; omega⟩
/-- a road from the one to the other, none has fewer steps -/
structure RoadOk (p : List Say) (a b : Int) (w : List Int) : Prop where
  road : IsRoad p w
  head : w.head? = some a
  last : lst w = b
  least : ∀ d, Rn p d a b → w.length ≤ d + 1
theorem Bfs.found (B : Bfs p start goal ws at') {w0 : List Int} (h0 : ws[at']? = some w0) (hg : lst w0 = goal) : RoadOk p start goal w0 := by
  have m0 : w0 ∈ ws := List.mem_of_getElem? h0
  obtain ⟨R0, H0⟩ := B.road w0 m0
  refine ⟨R0, H0, hg, fun d r => ?_⟩
  rcases B.dist d goal r with ⟨w, hw, e, hl⟩ | ⟨w, hw, hl⟩
  · obtain ⟨i, hi⟩ := List.mem_iff_getElem?.mp hw
    have e1 : (ws.map lst)[i]? = some goal := by rw [List.getElem?_map, hi]; exact congrArg some e
    have e2 : (ws.map lst)[at']? = some goal := by rw [List.getElem?_map, h0]; exact congrArg some hg
    have := L2.nd_ix B.nd e1 e2
    subst this
    rw [h0] at hi
    cases hi
    exact hl
  · rw [h0] at hw
    cases hw
    omega
theorem Bfs.none (B : Bfs p start goal ws ws.length) : ¬ Rc p start goal := fun h => by
  obtain ⟨d, r⟩ := h.rn
  have s0 : start ∈ ws.map lst := by
    obtain ⟨w, hw, e, _⟩ | ⟨w, hw, hl⟩ := B.dist 0 start (.refl _)
    · exact List.mem_map.mpr ⟨w, hw, e⟩
    · rw [List.getElem?_eq_none (Nat.le_refl _)] at hw
      cases hw
  have all := Rn.closed (L := fun y => y ∈ ws.map lst) (fun y z ih s => by
    obtain ⟨w, hw, e⟩ := List.mem_map.mp ih
    obtain ⟨i, hi⟩ := List.mem_iff_getElem?.mp hw
    exact B.done i w (List.getElem?_eq_some_iff.mp hi).1 hi _ (by rw [e]; exact s)) r s0
  obtain ⟨w, hw, e⟩ := List.mem_map.mp all
  obtain ⟨i, hi⟩ := List.mem_iff_getElem?.mp hw
  exact B.ng i w (List.getElem?_eq_some_iff.mp hi).1 hi e
/-- the lasts are literals: so there are not many -/
theorem Bfs.few {n : Nat} (B : Bfs p start goal ws at') (hp : PileOk n p) (hs : LitOk n start) : ws.length ≤ 2 * n := by
  have h := lits_len (n := n) B.nd fun x hx => by
    obtain ⟨w, hw, e⟩ := List.mem_map.mp hx
    obtain ⟨R, H⟩ := B.road w hw
    have r := R.rc H _ _ (lst_at R.ne)
    rw [← e]
    exact r.ok hp hs
  rw [List.length_map] at h
  exact h
end
end
end Px
namespace Px
open PySem L2
noncomputable section
section
variable {α : Type} {tg : PD → Env → R Env} {g : Env → Out} {enc : α → PD}
/-- a loop over a list by a state that counts -/
theorem forE_ix (R : D → Prop) : ∀ (xs : List α) (I : Nat → Env → Prop) (L : Env), (∀ (i : Nat) L a, xs[i]? = some a → I i L → ∃ L1, tg (enc a) L = .ok L1 ∧ ((∃ L2, (g L1 = .next L2 ∨ g L1 = .ct L2) ∧ I (i + 1) L2) ∨ ∃ d, g L1 = .ret d ∧ R d)) → I 0 L →
    (∃ L', forE tg g (xs.map enc) L = .next L' ∧ I xs.length L') ∨ ∃ d, forE tg g (xs.map enc) L = .ret d ∧ R d
  | [], I, L, _, h => .inl ⟨L, rfl, h⟩
  | a :: as, I, L, ht, h => by
    obtain ⟨L1, e1, h1⟩ := ht 0 L a rfl h
    rw [List.map_cons, forE_c, e1, out_ok']
    rcases h1 with ⟨L2, e2, h2⟩ | ⟨d, e2, h2⟩
    · have ih := forE_ix R as (fun i => I (i + 1)) L2 (fun i L b hb hi => ht (i + 1) L b hb hi) h2
      rcases e2 with e2 | e2 <;> (rw [e2]; exact ih)
    · exact .inr ⟨d, by rw [e2]; rfl, h2⟩
/-- the same over a range -/
theorem forE_rng (R : D → Prop) : ∀ (n : Nat) (lo : Int) (I : Nat → Env → Prop) (L : Env), (∀ (i : Nat) L, i < n → I i L → ∃ L1, tg (.int (lo + (i : Int))) L = .ok L1 ∧ ((∃ L2, (g L1 = .next L2 ∨ g L1 = .ct L2) ∧ I (i + 1) L2) ∨ ∃ d, g L1 = .ret d ∧ R d)) → I 0 L →
    (∃ L', forE tg g (rng lo n) L = .next L' ∧ I n L') ∨ ∃ d, forE tg g (rng lo n) L = .ret d ∧ R d
  | 0, lo, I, L, _, h => .inl ⟨L, rfl, h⟩
  | n + 1, lo, I, L, ht, h => by
    obtain ⟨L1, e1, h1⟩ := ht 0 L (Nat.succ_pos n) h
    rw [show lo + ((0 : Nat) : Int) = lo by omega] at e1
    rw [rng_s, forE_c, e1, out_ok']
    rcases h1 with ⟨L2, e2, h2⟩ | ⟨d, e2, h2⟩
    · have ih := forE_rng R n (lo + 1) (fun i => I (i + 1)) L2 (fun i L hb hi => by
        have := ht (i + 1) L (by omega) hi
        rw [show lo + ((i + 1 : Nat) : Int) = lo + 1 + (i : Int) by omega] at this
        exact this) h2
      rcases e2 with e2 | e2 <;> (rw [e2]; exact ih)
    · exact .inr ⟨d, by rw [e2]; rfl, h2⟩
end
@[simp] theorem slice_d (fa : Env → R PD) (fl fh : Env → R (Option Int)) (L : Env) : sliceL fa fl fh L = (fa L).bind fun d => (fl L).bind fun lo => (fh L).bind fun hi => match d with
  | .list ds => .ok (.own (cutP ds lo hi))
  | _ => .bad := rfl
@[simp] theorem noPart_d (L : Env) : noPart L = .ok none := rfl
@[simp] theorem partE_d (f : Env → R PD) (L : Env) : partE f L = (f L).bind fun d => match d with
  | .int i => .ok (some i)
  | _ => .bad := rfl
def cutL {α : Type} (xs : List α) (lo hi : Option Int) : List α := (xs.drop (HT.sIx xs.length 0 lo)).take (HT.sIx xs.length xs.length hi - HT.sIx xs.length 0 lo)
theorem cut_map {α : Type} (f : α → PD) (xs : List α) (lo hi : Option Int) : cutP (xs.map f) lo hi = (cutL xs lo hi).map f := by
  unfold cutP cutL
  rw [List.length_map, List.map_take, List.map_drop]
theorem cut_mem {α : Type} {xs : List α} {lo hi : Option Int} {x : α} (h : x ∈ cutL xs lo hi) : x ∈ xs := List.mem_of_mem_drop (List.mem_of_mem_take h)
theorem cut_len {α : Type} (xs : List α) (lo hi : Option Int) : (cutL xs lo hi).length ≤ xs.length := by
  unfold cutL
  rw [List.length_take, List.length_drop]
  omega
theorem PileOk.cut {n : Nat} {p : List Say} (h : PileOk n p) (lo hi : Option Int) : PileOk n (cutL p lo hi) := fun s hs => h s (cut_mem hs)
theorem cut_1 {α : Type} (xs : List α) : cutL xs (some 1) none = xs.drop 1 := by
  unfold cutL
  rw [show HT.sIx xs.length 0 (some 1) = min 1 xs.length from HT.sIx_nat xs.length 0 1, HT.sIx_none]
  cases xs with
  | nil => rfl
  | cons x xs =>
    rw [show min 1 (x :: xs).length = 1 by rw [List.length_cons]; omega]
    exact List.take_of_length_le (by rw [List.length_drop]; exact Nat.le_refl _)
theorem isi_of {T U : String} {b : Bool} (h : kitB U T = some b) : isiQ T U = .ok (.bool b) := by
  unfold isiQ
  rw [h]
@[simp] theorem isi_ib (b : Bool) : isiP "int" (.bool b) = .ok (.bool true) := isi_of (T := "int") (U := "bool") (by decide +kernel)
@[simp] theorem isi_ii (b : Int) : isiP "int" (.int b) = .ok (.bool true) := isi_of (T := "int") (U := "int") (by decide +kernel)
@[simp] theorem isi_bi (b : Int) : isiP "bool" (.int b) = .ok (.bool false) := isi_of (T := "bool") (U := "int") (by decide +kernel)
@[simp] theorem isi_bn : isiP "bool" .none = .ok (.bool false) := isi_of (T := "bool") (U := "NoneType") (by decide +kernel)
@[simp] theorem isi_ll (b : List PD) : isiP "list" (.list b) = .ok (.bool true) := isi_of (T := "list") (U := "list") (by decide +kernel)
@[simp] theorem isi_ln : isiP "list" .none = .ok (.bool false) := isi_of (T := "list") (U := "NoneType") (by decide +kernel)
@[simp] theorem isi_lt (b : List PD) : isiP "list" (.tuple b) = .ok (.bool false) := isi_of (T := "list") (U := "tuple") (by decide +kernel)
@[simp] theorem isi_tt (b : List PD) : isiP "tuple" (.tuple b) = .ok (.bool true) := isi_of (T := "tuple") (U := "tuple") (by decide +kernel)
@[simp] theorem isi_tn : isiP "tuple" .none = .ok (.bool false) := isi_of (T := "tuple") (U := "NoneType") (by decide +kernel)
@[simp] theorem isi_ss (b : Str) : isiP "str" (.str b) = .ok (.bool true) := isi_of (T := "str") (U := "str") (by decide +kernel)
@[simp] theorem notV_b (b : Bool) (f : Env → R PD) (L : Env) : (asB (.bool b)).bind (fun b => R.ok (PyData.bool (!b))) = .ok (.bool (!b)) := rfl
theorem f_manyby (c : Int) {k : Int} (h : 0 < k) (h2 : k ≤ 60) : ∃ m : Nat, f__law_many_by [.int c, .int k] = .ok (.val (.int (m : Int))) ∧ 1 ≤ m ∧ m ≤ 60 := by
  have e1 : mulP (.int 8) (.int k) = .ok (.int (8 * k)) := mul_ii (.inl (by decide))
  have a1 : 0 ≤ c % k := Int.emod_nonneg _ (by omega)
  have a2 : c % k < k := Int.emod_lt_of_pos _ h
  have b1 : 0 ≤ c / (8 * k) % 24 := Int.emod_nonneg _ (by omega)
  have b2 : c / (8 * k) % 24 < 24 := Int.emod_lt_of_pos _ (by omega)
  simp [f__law_many_by, fnE, envOf, g__law_many_by, div_n h (show k < 1073741824 by omega), mod_n (show (0 : Int) < 64 by decide), mod_n (show (0 : Int) < 8 by decide), mod_n (show (0 : Int) < 24 by decide), mod_n h, e1, div_n (show 0 < 8 * k by omega) (show 8 * k < 1073741824 by omega)]
  by_cases c1 : c / k % 64 = 2
  · exact ⟨60, by simp [c1], by decide, by decide⟩
  · by_cases c2 : c / k % 8 = 1
    · exact ⟨(1 + c / (8 * k) % 24).toNat, by rw [if_neg c1, if_pos c2]; simp; omega, by omega, by omega⟩
    · exact ⟨(1 + c % k).toNat, by rw [if_neg c1, if_neg c2]; simp; omega, by omega, by omega⟩
theorem f_pile (ns : List Int) {s : Int} {m c : Nat} (hs : 0 ≤ s) (m1 : 1 ≤ m) (m2 : m ≤ 100) (hc : c ≤ 1000) :
    ∃ P, f__law_pile_by [scr ns, .int s, .int (m : Int), .int (c : Int)] = .ok (.own (P.map sayE)) ∧ PileOk m P ∧ P.length = c := by
  have k := forE_rng (tg := tgN 5) (g := l__law_pile_by_1) (fun _ => False) c 0 (fun i L => ∃ P x y, PileOk m P ∧ P.length = i ∧ L = [some (.val (scr ns)), some (.val (.int s)), some (.val (.int (m : Int))), some (.val (.int (c : Int))), some (.own (P.map sayE)), x, y])
    [some (.val (scr ns)), some (.val (.int s)), some (.val (.int (m : Int))), some (.val (.int (c : Int))), some (.own []), none, none] (fun i L hi ⟨P, x, y, hP, hl, eL⟩ => by
      subst eL
      refine ⟨_, rfl, .inl ⟨_, .inl ?_, P ++ [(litBy (cellAt ns (s + (0 + (i : Int))).toNat % (2 * (m : Int))), litBy (cellAt ns (s + (0 + (i : Int))).toNat / (2 * (m : Int)) % (2 * (m : Int))))], some (.val (.int (0 + (i : Int)))), some (.val (.int (cellAt ns (s + (0 + (i : Int))).toNat))), fun z hz => ?_, ?_, rfl⟩⟩
      · simp [l__law_pile_by_1, f_cellI ns (show 0 ≤ s + (i : Int) by omega), mul2, mod_n (show 0 < 2 * (m : Int) by omega), div_n (show 0 < 2 * (m : Int) by omega) (show 2 * (m : Int) < 1073741824 by omega), f_litby, show P.length < 1000000 by omega]
      · rcases List.mem_append.mp hz with hz | hz
        · exact hP z hz
        · rw [List.mem_singleton] at hz
          subst hz
          exact ⟨lit_mod _ m1, lit_mod _ m1⟩
      · rw [List.length_append, List.length_singleton, hl]) ⟨[], none, none, (fun z hz => by cases hz), rfl, rfl⟩
  rcases k with ⟨L', e, P, x, y, hP, hl, eL⟩ | ⟨d, _, h⟩
  · subst eL
    refine ⟨P, ?_, hP, hl⟩
    simp [f__law_pile_by, fnE, envOf, g__law_pile_by, rngN (show c ≤ 1000000 by omega), e]
  · exact h.elim
theorem f_far (z : Int) {m c : Nat} (m1 : 1 ≤ m) (m2 : m ≤ 100) (hc : c ≤ 1000) :
    ∃ P, f__law_far_pile [.int z, .int (m : Int), .int (c : Int)] = .ok (.own (P.map sayE)) ∧ PileOk m P ∧ P.length = c := by
  have k := forE_rng (tg := tgN 4) (g := l__law_far_pile_1) (fun _ => False) c 0 (fun i L => ∃ P z x, PileOk m P ∧ P.length = i ∧ L = [some (.val (.int z)), some (.val (.int (m : Int))), some (.val (.int (c : Int))), some (.own (P.map sayE)), x])
    [some (.val (.int z)), some (.val (.int (m : Int))), some (.val (.int (c : Int))), some (.own []), none] (fun i L hi ⟨P, z, x, hP, hl, eL⟩ => by
      subst eL
      obtain ⟨w, hw⟩ : ∃ w, w = (z * 48271 + 11) % 2147483647 := ⟨_, rfl⟩
      refine ⟨_, rfl, .inl ⟨_, .inl ?_, P ++ [(litBy (w % (2 * (m : Int))), litBy (w / 1009 % (2 * (m : Int))))], w, some (.val (.int (0 + (i : Int)))), fun z hz => ?_, ?_, rfl⟩⟩
      · simp [l__law_far_pile_1, mul_ii (show mulOk z 48271 from .inr (by decide)), mod_n (show (0 : Int) < 2147483647 by decide), ← hw, mul2, mod_n (show 0 < 2 * (m : Int) by omega), div_n (show (0 : Int) < 1009 by decide) (by decide), f_litby, show P.length < 1000000 by omega]
      · rcases List.mem_append.mp hz with hz | hz
        · exact hP _ hz
        · rw [List.mem_singleton] at hz
          subst hz
          exact ⟨lit_mod _ m1, lit_mod _ m1⟩
      · rw [List.length_append, List.length_singleton, hl]) ⟨[], z, none, (fun z hz => by cases hz), rfl, rfl⟩
  rcases k with ⟨L', e, P, z', x, hP, hl, eL⟩ | ⟨d, _, h⟩
  · subst eL
    refine ⟨P, ?_, hP, hl⟩
    simp [f__law_far_pile, fnE, envOf, g__law_far_pile, rngN (show c ≤ 1000000 by omega), e]
  · exact h.elim
theorem f_turned {p : List Say} {bs : List Bool} (hp : PileOk bs.length p) (hl : p.length ≤ 1000) :
    ∃ P, f__law_turned [encP p, encB bs] = .ok (.own (P.map sayE)) ∧ PileOk bs.length P ∧ P.length = p.length := by
  have k := forE_ix (tg := tgN 3) (g := l__law_turned_1) (enc := sayE) (fun _ => False) p (fun i L => ∃ P x y, PileOk bs.length P ∧ P.length = i ∧ L = [some (.val (encP p)), some (.val (encB bs)), some (.own (P.map sayE)), x, y])
    [some (.val (encP p)), some (.val (encB bs)), some (.own []), none, none] (fun i L s hs ⟨P, x, y, hP, hl2, eL⟩ => by
      subst eL
      have ok := hp s (List.mem_of_getElem? hs)
      have hi := (List.getElem?_eq_some_iff.mp hs).1
      have l1 := bit_at ok.1
      have okf : LitOk bs.length (if bitAt bs s.1 = true then ((s.1.natAbs : Nat) : Int) else -((s.1.natAbs : Nat) : Int)) := by
        have h1 := ok.1.1
        have h2 := ok.1.2
        split <;> (constructor <;> omega)
      refine ⟨_, rfl, .inl ⟨_, .inl ?_, P ++ [((if bitAt bs s.1 = true then ((s.1.natAbs : Nat) : Int) else -((s.1.natAbs : Nat) : Int)), s.2)], some (.val (sayE s)), some (.val (.int (if bitAt bs s.1 = true then ((s.1.natAbs : Nat) : Int) else -((s.1.natAbs : Nat) : Int)))), fun z hz => ?_, ?_, rfl⟩⟩
      · cases eb : bitAt bs s.1 <;> simp [l__law_turned_1, l1, eb, show P.length < 1000000 by omega]
      · rcases List.mem_append.mp hz with hz | hz
        · exact hP z hz
        · rw [List.mem_singleton] at hz
          subst hz
          exact ⟨okf, ok.2⟩
      · rw [List.length_append, List.length_singleton, hl2]) ⟨[], none, none, (fun z hz => by cases hz), rfl, rfl⟩
  rcases k with ⟨L', e, P, x, y, hP, hl2, eL⟩ | ⟨d, _, h⟩
  · subst eL
    refine ⟨P, ?_, hP, hl2⟩
    simp [f__law_turned, fnE, envOf, g__law_turned, e]
  · exact h.elim
theorem f_true {bs : List Bool} {s : Int × Int} (h : SayOk bs.length s) : f__law_true [sayE s, encB bs] = .ok (.val (.bool (sayT bs s))) := by
  cases e1 : litT bs s.1
  · cases e2 : litT bs s.2
    · simp [f__law_true, fnE, envOf, g__law_true, l__law_true_1, forE_c, forE_n, bit_at h.1, bit_at h.2, sayT, e1, e2]
    · simp [f__law_true, fnE, envOf, g__law_true, l__law_true_1, forE_c, forE_n, bit_at h.1, bit_at h.2, sayT, e1, e2]
  · simp [f__law_true, fnE, envOf, g__law_true, l__law_true_1, forE_c, forE_n, bit_at h.1, sayT, e1]
theorem f_alltrue {bs : List Bool} {p : List Say} (hp : PileOk bs.length p) : f__law_all_true [encP p, encB bs] = .ok (.val (.bool (pileT bs p))) := by
  have k := forE_find (tg := tgN 2) (g := l__law_all_true_1) (enc := sayE) (fun L => ∃ x, L = [some (.val (encP p)), some (.val (encB bs)), x]) (fun s => !sayT bs s) (fun _ => .val (.bool false)) p [some (.val (encP p)), some (.val (encB bs)), none] (fun a L ha ⟨x, e⟩ => by
    subst e
    refine ⟨[some (.val (encP p)), some (.val (encB bs)), some (.val (sayE a))], rfl, fun h => ?_, fun h => ⟨[some (.val (encP p)), some (.val (encB bs)), some (.val (sayE a))], .inl ?_, _, rfl⟩⟩ <;>
      (simp at h; simp [l__law_all_true_1, f_true (hp a ha), h])) ⟨none, rfl⟩
  rcases k with ⟨a, ha, pa, e, _⟩ | ⟨hn, L', e, x, eL⟩
  · have hu : pileT bs p = false := by
      unfold pileT
      rw [List.all_eq_false]
      exact ⟨a, ha, by simpa using pa⟩
    rw [hu]
    simp [f__law_all_true, fnE, envOf, g__law_all_true, e]
  · have hu : pileT bs p = true := by
      unfold pileT
      rw [List.all_eq_true]
      intro l hl
      simpa using hn l hl
    rw [hu]
    simp [f__law_all_true, fnE, envOf, g__law_all_true, e]
theorem f_good_ok {bs : List Bool} {p : List Say} (hp : PileOk bs.length p) : f_good [encP p, encB bs] = .ok (.val (.bool (pileT bs p))) := by
  have k := forE_find (tg := tgN 2) (g := l_good_1) (enc := sayE) (fun L => ∃ x, L = [some (.val (encP p)), some (.val (encB bs)), x]) (fun s => !sayT bs s) (fun _ => .val (.bool false)) p [some (.val (encP p)), some (.val (encB bs)), none] (fun a L ha ⟨x, e⟩ => by
    subst e
    refine ⟨[some (.val (encP p)), some (.val (encB bs)), some (.val (sayE a))], rfl, fun h => ?_, fun h => ⟨[some (.val (encP p)), some (.val (encB bs)), some (.val (sayE a))], .inl ?_, _, rfl⟩⟩ <;>
      (simp at h; simp [l_good_1, f_says (hp a ha), h])) ⟨none, rfl⟩
  rcases k with ⟨a, ha, pa, e, _⟩ | ⟨hn, L', e, x, eL⟩
  · have hu : pileT bs p = false := by
      unfold pileT
      rw [List.all_eq_false]
      exact ⟨a, ha, by simpa using pa⟩
    rw [hu]
    simp [f_good, fnE, envOf, g_good, e]
  · have hu : pileT bs p = true := by
      unfold pileT
      rw [List.all_eq_true]
      intro l hl
      simpa using hn l hl
    rw [hu]
    simp [f_good, fnE, envOf, g_good, e]
end
end Px
namespace Px
open PySem L2
noncomputable section
theorem seq_to {g h : Env → Out} {L L' : Env} {X : R D} (e : g L = .next L') (r : finish (h L') = X) : finish (seqS g h L) = X := by
  rw [seq_d, e]
  exact r
theorem seq_ex {g h : Env → Out} {L : Env} {X : R D} (I : Env → Prop) (e : ∃ L', g L = .next L' ∧ I L') (r : ∀ L', I L' → finish (h L') = X) : finish (seqS g h L) = X := by
  obtain ⟨L', e, i⟩ := e
  exact seq_to e (r L' i)
theorem seq_or {g h : Env → Out} {L : Env} {X : R D} (I : Env → Prop) (e : (∃ L', g L = .next L' ∧ I L') ∨ ∃ d, g L = .ret d ∧ R.ok d = X) (r : ∀ L', I L' → finish (h L') = X) : finish (seqS g h L) = X := by
  rcases e with e | ⟨d, e, ed⟩
  · exact seq_ex I e r
  · rw [seq_d, e]
    exact ed
theorem seq_as {g1 g2 h : Env → Out} {L : Env} {X : R D} (r : finish (seqS g1 (seqS g2 h) L) = X) : finish (seqS (seqS g1 g2) h L) = X := by
  rw [← r]
  congr 1
  rw [seq_d, seq_d, seq_d]
  cases e : g1 L <;> first | rfl | (show Out.thn _ _ = _; rw [thn_n, thn_n, seq_d])
theorem put_own {i n : Nat} {fk fv : Env → R PD} {L : Env} {ds : List PD} {d : PD} (h : getE L i = some (.own ds)) (hv : fv L = .ok d) (hk : fk L = .ok (.int (n : Int))) (hn : n < ds.length) : putS i fk fv L = .next (setE L i (some (.own (ds.set n d)))) := by
  unfold putS
  rw [h]
  dsimp only
  rw [hv, hk]
  have e : ixN ds.length (n : Int) = some n := by
    unfold ixN
    rw [if_pos (by omega), if_pos (by omega)]
    rfl
  show (match ixN ds.length (n : Int) with
    | some m => Out.next _
    | none => .bad) = _
  rw [e]
theorem PileOk.set {n i : Nat} {p : List Say} {s : Say} (h : PileOk n p) (hs : SayOk n s) : PileOk n (p.set i s) := fun x hx => by
  rcases List.mem_or_eq_of_mem_set hx with hx | hx
  · exact h x hx
  · rw [hx]
    exact hs
theorem PileOk.at {n i : Nat} {p : List Say} {s : Say} (h : PileOk n p) (e : p[i]? = some s) : SayOk n s := h s (List.mem_of_getElem? e)
theorem atP {p : List Say} {i : Nat} (h : i < p.length) : atI (p.map sayE) (i : Int) = some (sayE p[i]) := by
  rw [at_map', at_nat h]
  rfl
/-- a rest by a length is a place -/
theorem mod_at (c : Int) {n : Nat} (h : 0 < n) : ∃ i : Nat, c % (n : Int) = (i : Int) ∧ i < n := by
  have a := Int.emod_nonneg c (show (n : Int) ≠ 0 by omega)
  have b := Int.emod_lt_of_pos c (show 0 < (n : Int) by omega)
  exact ⟨(c % (n : Int)).toNat, by omega, by omega⟩
theorem mod_nat (c : Int) {n : Int} (h : 0 < n) : ∃ i : Nat, c % n = (i : Int) ∧ (i : Int) < n := by
  have a := Int.emod_nonneg c (show n ≠ 0 by omega)
  have b := Int.emod_lt_of_pos c h
  exact ⟨(c % n).toNat, by omega, by omega⟩
theorem neg_ok {n : Nat} {l : Int} (h : LitOk n l) : LitOk n (-l) := litOk_neg h
theorem len_P (p : List Say) : lenP (.list (p.map sayE)) = .ok (.int (p.length : Int)) := by
  rw [len_l, List.length_map]
theorem f_whole (i : Int) : f__law_whole [.int i] = .ok (.val (.bool true)) := by
  simp [f__law_whole, fnE, envOf, g__law_whole]
theorem f_alike (a b : List Int) (hb : b.length ≤ 1000) : f__law_alike [encI a, encI b] = .ok (.val (.bool (decide (a = b)))) := by
  by_cases hl : a.length = b.length
  · have k := forE_rng (tg := tgN 2) (g := l__law_alike_1) (fun d => d = .val (.bool false) ∧ a ≠ b) b.length 0 (fun i L => (∃ x, L = [some (.val (encI a)), some (.val (encI b)), x]) ∧ ∀ j : Nat, j < i → a[j]? = b[j]?) [some (.val (encI a)), some (.val (encI b)), none] (fun i L hi ⟨⟨x, eL⟩, same⟩ => by
      subst eL
      have a1 : atI (a.map PyData.int) ((i : Nat) : Int) = some (.int a[i]) := by
        rw [at_map', at_nat (show i < a.length by omega)]
        rfl
      have b1 : atI (b.map PyData.int) ((i : Nat) : Int) = some (.int b[i]) := by
        rw [at_map', at_nat hi]
        rfl
      refine ⟨_, rfl, ?_⟩
      by_cases c : a[i] = b[i]
      · refine .inl ⟨[some (.val (encI a)), some (.val (encI b)), some (.val (.int (0 + (i : Int))))], .inl ?_, ⟨_, rfl⟩, fun j hj => ?_⟩
        · simp [l__law_alike_1, a1, b1, f_whole, c]
        · by_cases cj : j = i
          · subst cj
            rw [List.getElem?_eq_getElem (show j < a.length by omega), List.getElem?_eq_getElem hi, c]
          · exact same j (by omega)
      · refine .inr ⟨.val (.bool false), ?_, rfl, fun e => ?_⟩
        · simp [l__law_alike_1, a1, b1, f_whole, c]
        · subst e
          exact c rfl) ⟨⟨none, rfl⟩, fun j hj => absurd hj (Nat.not_lt_zero j)⟩
    rcases k with ⟨L', e, ⟨x, eL⟩, same⟩ | ⟨d, e, ed, ne⟩
    · have eq : a = b := List.ext_getElem? fun j => by
        by_cases cj : j < b.length
        · exact same j cj
        · rw [List.getElem?_eq_none (by omega), List.getElem?_eq_none (by omega)]
      subst eL
      subst eq
      have rg := rngN (show a.length ≤ 1000000 by omega)
      simp [f__law_alike, fnE, envOf, g__law_alike, rg, e]
    · have rg := rngN (show b.length ≤ 1000000 by omega)
      subst ed
      simp only [encI] at e
      simp [f__law_alike, fnE, envOf, g__law_alike, hl, rg, e, ne]
  · have ne : a ≠ b := fun e => hl (by rw [e])
    have ne2 : ¬ ((a.length : Int) = (b.length : Int)) := by omega
    simp [f__law_alike, fnE, envOf, g__law_alike, ne, ne2]
end
end Px
namespace Px
open PySem L2
theorem tup_say {P : List Say} : ∀ d ∈ P.map sayE, tupI d = true := fun d hd => by
  obtain ⟨s, _, e⟩ := List.mem_map.mp hd
  subst e
  rfl
theorem BkAt.other {K : PySem.W.Frag} {H H' : Hp} {p h q : Addr} {n : Int} {xs ys : List V} (b : BkAt K H p h n xs) (hq : H q = some (.lst ys)) (qh : q ≠ h) (k : ∀ b o, b ≠ q → H b = some o → H' b = some o) : BkAt K H' p h n xs := by
  obtain ⟨⟨C, dx, c, e⟩, l⟩ := b
  exact ⟨⟨C, dx, c, k _ _ (fun z => by subst z; rw [e] at hq; cases hq) e⟩, k _ _ qh.symm l⟩
def spDeed (K : PySem.W.Frag) : Sp := fun vs H Q _ => ∃ (p q h : Addr) (n : Nat) (c : Int) (xs ys : List V) (rows : List Say), vs = [.ref p, .ref q, .int c, .int n] ∧ BkAt K H p h n xs ∧ H q = some (.lst ys) ∧ q ≠ h ∧ DqAll K H xs (rows.map sayE) ∧ DqAll K H ys (rows.map sayE) ∧ 1 ≤ n ∧ n ≤ 100 ∧ rows.length < 400 ∧
  ((c % 8 < 3 ∧ ∀ s u1 u2 H', SayOk n s → H' h = some (.lst (xs ++ [u1])) → H' q = some (.lst (ys ++ [u2])) → Dq K H' u1 (sayE s) → Dq K H' u2 (sayE s) → (∀ b o, b ≠ h → b ≠ q → H b = some o → H' b = some o) → Q (.bl true) H') ∨
   (c % 8 = 4 ∧ ∃ rows' s xs' ys' x y, rows = rows' ++ [s] ∧ xs = xs' ++ [x] ∧ ys = ys' ++ [y] ∧ ∀ H', H' h = some (.lst xs') → H' q = some (.lst ys') → (∀ b o, b ≠ h → b ≠ q → H b = some o → H' b = some o) → Q (.bl true) H'))
structure DeedOk (P : Program) (w : World) (K : PySem.W.Frag) (mg : Str → Option Value) (base : Heap) (k : Nat) : Prop where
  ex : ∃ (a : Addr) (fd : FuncData), mg "_law_deed" = some (.ref a) ∧ PySem.W.keepIn K (.ref a) = true ∧ Binds K fd ["book", "pile", "cell", "many"] [] ∧ FnOk P w K mg base (L2.CX P w) k a fd ["book", "pile", "cell", "many"] (spDeed K)
theorem dpAll_last {K : PySem.W.Frag} {H : Hp} {d : PD} {x : V} : ∀ {ds : List PD} {vs : List V}, DqAll K H (vs ++ [x]) (ds ++ [d]) → DqAll K H vs ds ∧ Dq K H x d
  | [], [], h => by
    cases h with
    | cons a b => exact ⟨.nil, a⟩
  | [], v :: vs, h => by
    have l := dpAll_len h
    simp at l
  | e :: ds, [], h => by
    have l := dpAll_len h
    simp at l
  | e :: ds, v :: vs, h => by
    cases h with
    | cons a b =>
      obtain ⟨c1, c2⟩ := dpAll_last b
      exact ⟨.cons a c1, c2⟩
section
variable {P : Program} {w : World} {K : PySem.W.Frag} {mg : Str → Option Value} {base : Heap}
theorem deed_say {c : Int} {n : Nat} (n1 : 1 ≤ n) (n2 : n ≤ 100) : ∃ s, SayOk n s ∧ ∀ (a b : Option D) (r : Env), (tupE [callS f__law_lit_by (argsE [op2 modP (op2 divP (varB 2) (constE (.int 8))) (op2 mulP (constE (.int 2)) (varB 3))]), callS f__law_lit_by (argsE [op2 modP (op2 divP (varB 2) (op2 mulP (constE (.int 16)) (varB 3))) (op2 mulP (constE (.int 2)) (varB 3))])])
    (a :: b :: some (.val (.int c)) :: some (.val (.int (n : Int))) :: r) = .ok (sayE s) := by
  refine ⟨(litBy (c / 8 % (2 * (n : Int))), litBy (c / (16 * (n : Int)) % (2 * (n : Int)))), ⟨lit_mod _ n1, lit_mod _ n1⟩, fun a b r => ?_⟩
  have m16 : mulP (.int 16) (.int (n : Int)) = .ok (.int (16 * (n : Int))) := mul_ii (.inl (by decide))
  simp [mul2, m16, mod_n (show 0 < 2 * (n : Int) by omega), div_n (show (0 : Int) < 8 by decide) (by decide), div_n (show 0 < 16 * (n : Int) by omega) (show 16 * (n : Int) < 1073741824 by omega), f_litby]
theorem ka_deed (Hs : Has K mg "_law_deed" s__law_deed ["book", "pile", "cell", "many"]) (Bl : Blt mg) (h__law_lit_by : Fct P w K mg base "_law_lit_by" ["index"] 1 f__law_lit_by) (a_add : MetOk P w K mg base "add" ["self", "say"] 1 (spAddC K)) (a_back : MetOk P w K mg base "back" ["self"] 1 (spBackC K)) : DeedOk P w K mg base 8 := by
  obtain ⟨a, fd, Fn, hm, hb⟩ := Hs.ex
  refine ⟨a, fd, hm, Fn.kp, .all hb, Fn.okX sc__law_deed (fun vs H Q E h => ?_) (fun cdv A outer s H vs Q E hr h => ?_)⟩
  · obtain ⟨_, _, _, _, _, _, _, _, rfl, _⟩ := h
    rfl
  have tk : Takes (cxOf (L2.CX P w) P w K mg base N__law_deed "_law_deed" (defScope s__law_deed) a cdv A outer s H E) (fun cls d _ H => E cls d H) := takes_of rfl rfl rfl rfl
  have C : Ctx (cxOf (L2.CX P w) P w K mg base N__law_deed "_law_deed" (defScope s__law_deed) a cdv A outer s H E) E 7 := ⟨hr, passes_call tk fun _ _ _ _ h => h, rfl, passes_of rfl⟩
  refine ⟨_, pss_cons (ps_set (i := 4) sc__law_deed.nd rfl (Or.inl rfl) (xe_tup (E := E) (xa_cons (xe_callS C h__law_lit_by (by decide) f__law_lit_by_len (xab_cons (xb_of (xe_op op_mod r_mod (xb_of (xe_op op_fdiv r_div (xb_var 2) (xb_of (xe_int)))) (xb_of (xe_op op_mul r_mul (xb_of (xe_int)) (xb_var 3))))) xab_nil)) (xa_cons (xe_callS C h__law_lit_by (by decide) f__law_lit_by_len (xab_cons (xb_of (xe_op op_mod r_mod (xb_of (xe_op op_fdiv r_div (xb_var 2) (xb_of (xe_op op_mul r_mul (xb_of (xe_int)) (xb_var 3))))) (xb_of (xe_op op_mul r_mul (xb_of (xe_int)) (xb_var 3))))) xab_nil)) xa_nil))))
    (pss_cons (ps_set (i := 5) sc__law_deed.nd rfl (Or.inl rfl) (xe_op (E := E) op_mod r_mod (xb_var 2) (xb_of (xe_int))))
    (pss_cons (ps_if (xt_cmp (E := E) op_lt r_cmp (xb_var 5) (xb_of (xe_int)) (nomark _))
      (pss_cons (ps_expr (pe_bm PySem.F.plainAttrs_list PySem.F.slot_list_append PySem.F.type_list_append mt_append (pv 1) (pa_cons (pv 4) pa_nil)))
        (pss_one (ps_ret (pe_cmpR op_isN (pe_addC (i := 0) C a_add (by decide) (xe_var (E := E) 4)) pe_non (nomark _))))) pss_nil)
    (pss_cons (ps_if (xt_cmp (E := E) (op_eqD C.room.units) r_eq (xb_var 5) (xb_of (xe_int)) (nomark _)) (xss_bad (E := E)) pss_nil)
    (pss_cons (ps_if (xt_cmp (E := E) (op_eqD C.room.units) r_eq (xb_var 5) (xb_of (xe_int)) (nomark _))
      (pss_cons (ps_if (xt_cmp (E := E) (op_eqD C.room.units) r_eq (xb_of (xe_B call_len r_len (by rfl) Bl.len (by decide +kernel) (xb_var 1))) (xb_of (xe_int)) (nomark _)) (xss_bad (E := E)) pss_nil)
        (pss_one (ps_ret (pe_cmpR (op_eqD C.room.units) (pe_backC (i := 0) C a_back (by decide)) (pe_bm0 PySem.F.plainAttrs_list PySem.F.slot_list_pop PySem.F.type_list_pop mt_pop (pv 1)) (nomark _))))) pss_nil)
    (xss_bad (E := E)))))), ?_⟩
  obtain ⟨p, q, h, n, c, xs, ys, rows, rfl, bk, hq, qh, hxs, hys, n1, n2, few, way⟩ := h
  obtain ⟨s, sok, es⟩ := deed_say (c := c) n1 n2
  have av : ∀ {H' : Hp} {x4 x5 : Option V} {o4 o5 : Option D}, Same H H' → (∀ d, o4 = some d → ∃ pd x, d = .val pd ∧ x4 = some x ∧ Dq K H' x pd) → (∀ d, o5 = some d → ∃ pd x, d = .val pd ∧ x5 = some x ∧ Dq K H' x pd) →
      AllV K H' [some (.ref p), some (.ref q), some (.int c), some (.int n), x4, x5, none, none, none] [some (.val (bkD n (rows.map sayE))), some (.val (encP rows)), some (.val (.int c)), some (.val (.int n)), o4, o5, none, none, none] := fun {H' x4 x5 o4 o5} sH h4 h5 =>
    .v (dp_mono sH _ _ (bk.dq hxs)) (.v (dp_mono sH _ _ (.lst hq hys)) (.v (.int _) (.v (.int _) (.cons h4 (.cons h5 (.n (.n (.n allV_nil))))))))
  refine te_val (av (Same.refl _) no_slot no_slot) (es _ _ _) fun v H1 s1 hv => ?_
  have four : ∀ {H' : Hp}, Same H1 H' → ∀ d, some (D.val (sayE s)) = some d → ∃ pd x, d = .val pd ∧ some v = some x ∧ Dq K H' x pd := fun {H'} sH d e => by
    cases e
    exact ⟨_, _, rfl, rfl, dp_mono sH _ _ hv⟩
  refine te_val (d := .int (c % 8)) (av (o4 := some (.val (sayE s))) (o5 := none) s1 (four (Same.refl _)) no_slot) (by simp [mod_n]) fun w5 H2 s2 hw => ?_
  cases hw
  have five : ∀ {H' : Hp}, ∀ d, some (D.val (.int (c % 8))) = some d → ∃ pd x, d = .val pd ∧ some (V.int (c % 8)) = some x ∧ Dq K H' x pd := fun {H'} d e => by
    cases e
    exact ⟨_, _, rfl, rfl, .int _⟩
  refine tt_val (b := decide (c % 8 < 3)) (av (s1.trans s2) (four s2) five) rfl fun H3 s3 => ?_
  have sH3 := (s1.trans s2).trans s3
  rcases way with ⟨w1, k⟩ | ⟨w4, rows', s', xs', ys', x, y, er, ex, ey, k⟩
  · -- put
    refine ite_t (decide_eq_true w1) ?_
    have hq3 := sH3 _ _ hq
    refine ⟨_, rfl, .inl ⟨rfl, ys, SqL.of hq3⟩, _, rfl, q, ys, v, rfl, rfl, hq3, ?_, ?_⟩
    · rw [dpAll_len hys, List.length_map]
      exact Nat.lt_trans few (by decide)
    have k4 : ∀ b o, b ≠ q → H3 b = some o → upd H3 q (.lst (ys ++ [v])) b = some o := fun b o nb e => by
      rw [upd_ne nb]
      exact e
    have bk4 := (bk.mono sH3).other hq3 qh k4
    have hv4 : Dq K (upd H3 q (.lst (ys ++ [v]))) v (sayE s) := dq_pair (dp_mono (s2.trans s3) _ _ hv) (tup_keep hq3 k4)
    have hx4 : DqAll K (upd H3 q (.lst (ys ++ [v]))) xs (rows.map sayE) := dq_pairs (tup_keep hq3 k4) (dpAll_mono sH3 _ _ hxs) tup_say
    refine ⟨p, h, n, xs, rfl, bk4, ?_⟩
    have a4 : AllV K (upd H3 q (.lst (ys ++ [v]))) [some (.ref p), some (.ref q), some (.int c), some (.int n), some v, some (.int (c % 8)), none, none, none] [none, none, none, none, some (.val (sayE s)), none, none, none, none] := .n (.n (.n (.n (.v hv4 (.n (.n (.n (.n allV_nil))))))))
    refine te_val (d := sayE s) a4 rfl fun v5 H5 s5 hv5 => ?_
    have bk5 := bk4.mono s5
    refine ⟨p, h, n, xs, _, v5, s.1, s.2, rfl, bk5, dpAll_mono s5 _ _ hx4, hv5, ⟨sok.1.1, by have := sok.1.2; omega⟩, ⟨sok.2.1, by have := sok.2.2; omega⟩, by rw [List.length_map]; exact few, fun u H6 e6 hu k6 => ⟨rfl, ?_⟩⟩
    show Q (.bl (decide (V.non = V.non))) H6
    rw [decide_eq_true rfl]
    refine k s u v H6 sok e6 (k6 q _ qh (s5 _ _ upd_same)) hu (dq_pair (dp_mono s5 _ _ hv4) (tup_keep bk5.held k6)) fun b o bh bq e => ?_
    exact k6 b o bh (s5 _ _ (k4 b o bq (sH3 _ _ e)))
  · -- taken back
    refine ite_f (decide_eq_false (by omega)) ?_
    refine tt_val (b := false) (av sH3 (four (s2.trans s3)) five) (by simp; omega) fun H4 s4 => ite_f rfl ?_
    have sH4 := sH3.trans s4
    refine tt_val (b := true) (av sH4 (four ((s2.trans s3).trans s4)) five) (by simp; omega) fun H5 s5 => ite_t rfl ?_
    have sH5 := sH4.trans s5
    refine tt_val (b := false) (av sH5 (four (((s2.trans s3).trans s4).trans s5)) five) (by rw [er]; simp; omega) fun H6 s6 => ite_f rfl ?_
    have sH6 := sH5.trans s6
    subst er
    subst ex
    subst ey
    have bk6 := bk.mono sH6
    have hq6 := sH6 _ _ hq
    have hx6 := dpAll_mono sH6 _ _ hxs
    have hy6 := dpAll_mono sH6 _ _ hys
    refine ⟨p, h, n, xs', x, _, rfl, bk6, hx6, fun H7 e7 k7 => ?_⟩
    have hq7 := k7 q _ qh hq6
    rw [List.map_append] at hx6 hy6
    have lx := (dpAll_last hx6).2
    have ly := (dpAll_last hy6).2
    have shu := (sh_say s').ok (by decide)
    have t7 := tup_keep bk6.held k7
    refine ⟨_, rfl, .inl ⟨rfl, _, SqL.of hq7⟩, q, _, y, rfl, rfl, hq7, ?_, ?_⟩
    · rw [List.length_append, List.length_singleton, Nat.add_sub_cancel, List.getElem?_append_right (Nat.le_refl _), Nat.sub_self]
      rfl
    have k8 : ∀ b o, b ≠ q → H7 b = some o → upd H7 q (.lst (ys' ++ [y]).dropLast) b = some o := fun b o nb e => by
      rw [upd_ne nb]
      exact e
    have t8 := tup_keep hq7 k8
    refine ⟨sayE s', sayE s', dq_dp _ _ shu (dq_pair (dq_pair lx t7) t8), dq_dp _ _ shu (dq_pair (dq_pair ly t7) t8), shu, shu, ?_⟩
    show Q (.bl (PyData.eqv (sayE s') (sayE s'))) _
    rw [ev_say, decide_eq_true rfl]
    refine k _ (k8 _ _ qh.symm e7) (by rw [upd_same, List.dropLast_concat]) fun b o bh bq e => ?_
    exact k8 _ _ bq (k7 _ _ bh (sH6 _ _ e))
end
end Px
namespace Px
open PySem L2
noncomputable section
theorem hasK_put {ks : List (Int × PD)} {j : Int} {d : PD} (h : hasK ks j = false) (i : Int) : hasK (putD ks j d) i = (hasK ks i || decide (j = i)) := by
  unfold putD
  rw [h, if_neg (by decide)]
  unfold hasK
  rw [List.any_append, List.any_cons, List.any_nil, Bool.or_false]
theorem putD_len {ks : List (Int × PD)} {j : Int} {d : PD} (h : hasK ks j = false) : (putD ks j d).length = ks.length + 1 := by
  unfold putD
  rw [h, if_neg (by decide), List.length_append]
  rfl
@[simp] theorem dic1_d (fk fv : Env → R PD) (L : Env) : dic1 fk fv L = (fk L).bind fun k => (fv L).bind fun v => mkD1 k v := rfl
@[simp] theorem mkD1_d (j : Int) (v : PD) : mkD1 (.int j) v = .ok (.dic [(j, v)]) := rfl
theorem notIn_ok {i : Nat} {fk : Env → R PD} {L : Env} {ks : List (Int × PD)} {j : Int} (h : getE L i = some (.dic ks)) (hk : fk L = .ok (.int j)) : notInD i fk L = .ok (!hasK ks j) := by
  unfold notInD
  rw [hk, h]
  rfl
theorem putDS_ok {i : Nat} {fk fv : Env → R PD} {L : Env} {ks : List (Int × PD)} {j : Int} {d : PD} (h : getE L i = some (.dic ks)) (hk : fk L = .ok (.int j)) (hv : fv L = .ok d) (hl : ks.length < 1000000) : putDS i fk fv L = .next (setE L i (some (.dic (putD ks j d)))) := by
  unfold putDS
  rw [h]
  dsimp only
  rw [hv, hk]
  exact cif_pos hl
theorem at_last {w : List Int} (h : w ≠ []) : atI (w.map PyData.int) (-1) = some (.int (lst w)) := by
  have hl := List.length_pos_iff.mpr h
  rw [at_map']
  have e : atI w (-1) = some (lst w) := by
    have e2 : ixN w.length (-1) = some (w.length - 1) := by
      unfold ixN
      rw [if_neg (by omega), if_pos (by omega)]
      congr 1
      omega
    unfold atI
    rw [e2]
    exact lst_at h
  rw [e]
  rfl
theorem cat_I1' (a : List Int) (b : Int) (h : a.length ≤ 1000) : catP (.list (a.map PyData.int)) (.list [.int b]) = .ok (.own (a.map PyData.int ++ [.int b])) := by
  have := cat_I1 a b h
  simpa using this
theorem road_in (d0 d1 d2 d5 : D) (way : List Int) (hw : way.length ≤ 1000) : ∀ (xs : List Int) (ws : List (List Int)) (ks : List (Int × PD)) (x : Option D), (∀ j, hasK ks j = decide (j ∈ ws.map lst)) → ks.length = ws.length → ws.length + xs.length ≤ 100000 →
    ∃ ks' x', forE (tgN 7) l_road_2 (xs.map PyData.int) [some d0, some d1, some d2, some (.own (ws.map encI)), some (.dic ks), some d5, some (.val (encI way)), x] =
      .next [some d0, some d1, some d2, some (.own ((bfsAll way ws xs).map encI)), some (.dic ks'), some d5, some (.val (encI way)), x'] ∧ (∀ j, hasK ks' j = decide (j ∈ (bfsAll way ws xs).map lst)) ∧ ks'.length = (bfsAll way ws xs).length
  | [], ws, ks, x, hk, hl, _ => ⟨ks, x, rfl, hk, hl⟩
  | v :: xs, ws, ks, x, hk, hl, h => by
    rw [List.length_cons] at h
    have e : bfsAll way ws (v :: xs) = bfsAll way (bfsTurn way ws v) xs := rfl
    rw [e, List.map_cons, forE_c]
    by_cases c : v ∈ ws.map lst
    · have eb : bfsTurn way ws v = ws := if_pos c
      rw [eb]
      obtain ⟨ks', x', e2, k2, l2⟩ := road_in d0 d1 d2 d5 way hw xs ws ks (some (.val (.int v))) hk hl (by omega)
      refine ⟨ks', x', ?_, k2, l2⟩
      have hv : hasK ks v = true := by rw [hk, decide_eq_true c]
      have b : l_road_2 [some d0, some d1, some d2, some (.own (ws.map encI)), some (.dic ks), some d5, some (.val (encI way)), some (.val (.int v))] = .next [some d0, some d1, some d2, some (.own (ws.map encI)), some (.dic ks), some d5, some (.val (encI way)), some (.val (.int v))] := by
        have n := notIn_ok (i := 4) (fk := varE 7) (L := [some d0, some d1, some d2, some (.own (ws.map encI)), some (.dic ks), some d5, some (.val (encI way)), some (.val (.int v))]) (ks := ks) (j := v) rfl rfl
        unfold l_road_2
        rw [if_d, n, hv]
        rfl
      rw [tgN_d, out_ok']
      show (l_road_2 [some d0, some d1, some d2, some (.own (ws.map encI)), some (.dic ks), some d5, some (.val (encI way)), some (.val (.int v))]).turn _ = _
      rw [b]
      exact e2
    · have eb : bfsTurn way ws v = ws ++ [way ++ [v]] := if_neg c
      rw [eb]
      have hv : hasK ks v = false := by rw [hk, decide_eq_false c]
      obtain ⟨ks', x', e2, k2, l2⟩ := road_in d0 d1 d2 d5 way hw xs (ws ++ [way ++ [v]]) (putD ks v (.bool true)) (some (.val (.int v))) (fun j => by
        rw [hasK_put hv, hk, List.map_append, List.map_singleton, lst_app]
        by_cases q : j ∈ ws.map lst <;> by_cases q2 : v = j <;> simp [q, q2, eq_comm]) (by rw [putD_len hv, List.length_append, hl]; rfl) (by rw [List.length_append, List.length_singleton]; omega)
      refine ⟨ks', x', ?_, k2, l2⟩
      have b : l_road_2 [some d0, some d1, some d2, some (.own (ws.map encI)), some (.dic ks), some d5, some (.val (encI way)), some (.val (.int v))] = .next [some d0, some d1, some d2, some (.own ((ws ++ [way ++ [v]]).map encI)), some (.dic (putD ks v (.bool true))), some d5, some (.val (encI way)), some (.val (.int v))] := by
        have n := notIn_ok (i := 4) (fk := varE 7) (L := [some d0, some d1, some d2, some (.own (ws.map encI)), some (.dic ks), some d5, some (.val (encI way)), some (.val (.int v))]) (ks := ks) (j := v) rfl rfl
        have p := putDS_ok (i := 4) (fk := varE 7) (fv := constE (.bool true)) (L := [some d0, some d1, some d2, some (.own (ws.map encI)), some (.dic ks), some d5, some (.val (encI way)), some (.val (.int v))]) (ks := ks) (j := v) rfl rfl rfl (by omega)
        have ct := cat_I1' way v (by omega)
        unfold l_road_2
        rw [if_d, n, hv]
        simp [p, ct, show ws.length < 1000000 by omega]
      rw [tgN_d, out_ok']
      show (l_road_2 [some d0, some d1, some d2, some (.own (ws.map encI)), some (.dic ks), some d5, some (.val (encI way)), some (.val (.int v))]).turn _ = _
      rw [b]
      exact e2
theorem f_road_ok {n : Nat} {p : List Say} {s g : Int} (hn : n ≤ 100) (hl : p.length ≤ 1000) (hp : PileOk n p) (hs : LitOk n s) :
    (∃ w, RoadOk p s g w ∧ w.length ≤ 2 * n ∧ f_road [encP p, .int s, .int g] = .ok (.val (encI w))) ∨ (¬ Rc p s g ∧ f_road [encP p, .int s, .int g] = .ok (.val .none)) := by
  have post := while_ok (t := op2 ltP (varB 5) (op1 lenP (varB 3))) (g := l_road_1)
    (fun m L => ∃ ws at' ks x y, Bfs p s g ws at' ∧ (∀ j, hasK ks j = decide (j ∈ ws.map lst)) ∧ ks.length = ws.length ∧ m = 2 * n - at' ∧ L = [some (.val (encP p)), some (.val (.int s)), some (.val (.int g)), some (.own (ws.map encI)), some (.dic ks), some (.val (.int (at' : Nat))), x, y])
    (fun o => (∃ w, RoadOk p s g w ∧ w.length ≤ 2 * n ∧ o = .ret (.val (encI w))) ∨ (¬ Rc p s g ∧ ∃ L, o = .next L))
    (fun m L ⟨ws, at', ks, x, y, B, hk, hkl, em, eL⟩ => by
      have fl := B.few hp hs
      subst eL
      by_cases c : at' < ws.length
      · refine .inr ⟨by simp [c], ?_⟩
        have hx : ws[at']? = some ws[at'] := List.getElem?_eq_getElem c
        obtain ⟨w, ew⟩ : ∃ w, w = ws[at'] := ⟨_, rfl⟩
        rw [← ew] at hx
        have R0 := (B.road w (List.mem_of_getElem? hx)).1
        have wl := B.len at' w hx
        have ix : atI (ws.map encI) (at' : Int) = some (encI w) := by
          rw [at_map', at_nat c, ← ew]
          rfl
        have la := at_last R0.ne
        by_cases cg : lst w = g
        · have F := B.found hx cg
          refine .inr ⟨.val (encI w), ?_, .inl ⟨w, F, by omega, rfl⟩⟩
          simp only [encI] at ix
          simp [l_road_1, ix, la, cg]
        · have B' := B.next hx cg
          obtain ⟨ks', x', e2, k2, l2⟩ := road_in (.val (encP p)) (.val (.int s)) (.val (.int g)) (.val (.int (at' : Nat))) w (by omega) (stepsFrom p (lst w)) ws ks y hk hkl (by have := steps_len hp (lst w); omega)
          refine .inl ⟨_, 2 * n - (at' + 1), .inl ?_, by omega, _, at' + 1, ks', some (.val (encI w)), x', B', k2, l2, rfl, rfl⟩
          have st := f_steps p (lst w) hl
          simp only [encI] at ix e2
          simp [l_road_1, ix, la, cg, st, e2]
      · have ea : at' = ws.length := by have := B.le; omega
        subst ea
        exact .inl ⟨by simp, .inr ⟨B.none, _, rfl⟩⟩)
    (2 * n) [some (.val (encP p)), some (.val (.int s)), some (.val (.int g)), some (.own ([[s]].map encI)), some (.dic [(s, .bool true)]), some (.val (.int ((0 : Nat) : Int))), none, none] ⟨[[s]], 0, [(s, .bool true)], none, none, .start', fun j => by simp [hasK, lst, eq_comm], rfl, rfl, rfl⟩ (by omega)
  rcases post with ⟨w, F, wl, e⟩ | ⟨h, L, e⟩
  · refine .inl ⟨w, F, wl, ?_⟩
    simp [encI] at e
    simp [f_road, fnE, envOf, g_road, e]
  · refine .inr ⟨h, ?_⟩
    simp [encI] at e
    simp [f_road, fnE, envOf, g_road, e]
end
end Px
namespace Px
open PySem L2
noncomputable section
theorem IsRoad.join {p : List Say} {u v : List Int} (hu : IsRoad p u) (hv : IsRoad p v) (h : v.head? = some (lst u)) : IsRoad p (u ++ v.drop 1) := by
  refine ⟨by simp [hu.ne], fun i a b ha hb => ?_⟩
  by_cases c : i + 1 < u.length
  · rw [List.getElem?_append_left (by omega)] at ha hb
    exact hu.step i a b ha hb
  · rw [List.getElem?_append_right (by omega), List.getElem?_drop] at hb
    by_cases c2 : i + 1 = u.length
    · rw [List.getElem?_append_left (by omega)] at ha
      have h1 := lst_at hu.ne
      rw [show u.length - 1 = i by omega, ha] at h1
      cases h1
      rw [show 1 + (i + 1 - u.length) = 0 + 1 by omega] at hb
      rw [List.head?_eq_getElem?] at h
      exact hv.step 0 _ b h hb
    · rw [List.getElem?_append_right (by omega), List.getElem?_drop] at ha
      rw [show 1 + (i + 1 - u.length) = (1 + (i - u.length)) + 1 by omega] at hb
      exact hv.step _ a b ha hb
theorem lst_join {u v : List Int} (hu : u ≠ []) (h : v.head? = some (lst u)) : lst (u ++ v.drop 1) = lst v := by
  cases v with
  | nil => cases h
  | cons x t =>
    rw [List.head?_cons] at h
    have hx : x = lst u := Option.some.inj h
    cases t with
    | nil =>
      show lst (u ++ []) = _
      rw [List.append_nil, ← hx]
      rfl
    | cons y t =>
      show lst (u ++ (y :: t)) = _
      unfold lst
      rw [List.getLastD_eq_getLast?, List.getLastD_eq_getLast?, List.getLast?_append, List.getLast?_cons_cons]
      have : (y :: t).getLast? ≠ none := by simp
      cases e : (y :: t).getLast? with
      | none => exact absurd e this
      | some z => rfl
structure IsRing (n : Nat) (p : List Say) (w : List Int) : Prop where
  road : IsRoad p w
  ends : w.head? = some (lst w)
  ok : ∀ x ∈ w, LitOk n x
  both : ∃ k, k ∈ w ∧ -k ∈ w ∧ Rc p k (-k) ∧ Rc p (-k) k
  len : w.length ≤ 1000
theorem IsRoad.oks {n : Nat} {p : List Say} {w : List Int} (h : IsRoad p w) (hp : PileOk n p) {a : Int} (ha : w.head? = some a) (hs : LitOk n a) : ∀ x ∈ w, LitOk n x := fun x hx => by
  obtain ⟨i, hi⟩ := List.mem_iff_getElem?.mp hx
  exact (h.rc ha i x hi).ok hp hs
theorem lst_mem {w : List Int} (h : w ≠ []) : lst w ∈ w := List.mem_of_getElem? (lst_at h)
theorem head_mem {w : List Int} {a : Int} (h : w.head? = some a) : a ∈ w := List.mem_of_getElem? (by rw [← List.head?_eq_getElem?]; exact h)
theorem RoadOk.rc {p : List Say} {a b : Int} {w : List Int} (h : RoadOk p a b w) : Rc p a b := by
  have := h.road.rc h.head _ _ (lst_at h.road.ne)
  rw [h.last] at this
  exact this
theorem RoadOk.ring {n k : Nat} {p : List Say} {u v : List Int} (hn : n ≤ 100) (hp : PileOk n p) (hk : LitOk n (k : Int)) (hu : RoadOk p (k : Int) (-(k : Int)) u) (hv : RoadOk p (-(k : Int)) (k : Int) v) (lu : u.length ≤ 2 * n) (lv : v.length ≤ 2 * n) : IsRing n p (u ++ v.drop 1) := by
  have hh : v.head? = some (lst u) := by rw [hu.last]; exact hv.head
  have j := hu.road.join hv.road hh
  have hd : (u ++ v.drop 1).head? = some (k : Int) := by
    have := hu.head
    cases u with
    | nil => cases this
    | cons a t => exact this
  refine ⟨j, ?_, j.oks hp hd hk, ⟨k, head_mem hd, List.mem_append_left _ ?_, hu.rc, hv.rc⟩, ?_⟩
  · rw [hd, lst_join hu.road.ne hh, hv.last]
  · have := lst_mem hu.road.ne
    rw [hu.last] at this
    exact this
  · rw [List.length_append, List.length_drop]
    omega
theorem f_clash_ok {n : Nat} {p : List Say} (hn : n ≤ 100) (hl : p.length ≤ 1000) (hp : PileOk n p) :
    (∃ w, IsRing n p w ∧ f_clash [.int (n : Int), encP p] = .ok (.own (w.map PyData.int))) ∨ ((∀ k : Nat, 1 ≤ k → k ≤ n → ¬ (Rc p (k : Int) (-(k : Int)) ∧ Rc p (-(k : Int)) (k : Int))) ∧ f_clash [.int (n : Int), encP p] = .ok (.val .none)) := by
  have rg := rng1n (show n ≤ 1000 by omega)
  have k := forE_rng (tg := tgN 2) (g := l_clash_1) (fun d => ∃ w, IsRing n p w ∧ d = .own (w.map PyData.int)) n 1
    (fun i L => (∀ k : Nat, 1 ≤ k → k ≤ i → ¬ (Rc p (k : Int) (-(k : Int)) ∧ Rc p (-(k : Int)) (k : Int))) ∧ ∃ x y z, L = [some (.val (.int (n : Int))), some (.val (encP p)), x, y, z])
    [some (.val (.int (n : Int))), some (.val (encP p)), none, none, none] (fun i L hi ⟨hno, x, y, z, eL⟩ => by
      subst eL
      obtain ⟨k, hk⟩ : ∃ k : Nat, k = i + 1 := ⟨_, rfl⟩
      have ek : (1 : Int) + (i : Int) = (k : Int) := by omega
      rw [ek]
      have ok := litOk_nat (n := n) (k := k) (by omega) (by omega)
      have next : ¬ (Rc p (k : Int) (-(k : Int)) ∧ Rc p (-(k : Int)) (k : Int)) → ∀ j : Nat, 1 ≤ j → j ≤ i + 1 → ¬ (Rc p (j : Int) (-(j : Int)) ∧ Rc p (-(j : Int)) (j : Int)) := fun h j j1 j2 => by
        by_cases c : j = k
        · rw [c]; exact h
        · exact hno j j1 (by omega)
      refine ⟨_, rfl, ?_⟩
      rcases f_road_ok (g := -(k : Int)) hn hl hp ok with ⟨u, U, lu, eu⟩ | ⟨hu, eu⟩
      · rcases f_road_ok (g := (k : Int)) hn hl hp (litOk_neg ok) with ⟨v, V, lv, ev⟩ | ⟨hv, ev⟩
        · refine .inr ⟨.own ((u ++ v.drop 1).map PyData.int), ?_, _, U.ring hn hp ok V lu lv, rfl⟩
          have ct := cut_map PyData.int v (some 1) none
          rw [cut_1] at ct
          have ca := cat_II u (v.drop 1) (by rw [List.length_drop]; omega)
          simp only [encI] at ca eu ev
          simp at ca
          simp [l_clash_1, eu, ev, ct, ca]
        · exact .inl ⟨[some (.val (.int (n : Int))), some (.val (encP p)), some (.val (.int (k : Int))), some (.val (encI u)), some (.val .none)], .inl (by simp [l_clash_1, eu, ev]), next fun h => hv h.2, _, _, _, rfl⟩
      · rcases f_road_ok (g := (k : Int)) hn hl hp (litOk_neg ok) with ⟨v, V, lv, ev⟩ | ⟨hv, ev⟩
        · exact .inl ⟨[some (.val (.int (n : Int))), some (.val (encP p)), some (.val (.int (k : Int))), some (.val .none), some (.val (encI v))], .inl (by simp [l_clash_1, eu, ev]), next fun h => hu h.1, _, _, _, rfl⟩
        · exact .inl ⟨[some (.val (.int (n : Int))), some (.val (encP p)), some (.val (.int (k : Int))), some (.val .none), some (.val .none)], .inl (by simp [l_clash_1, eu, ev]), next fun h => hu h.1, _, _, _, rfl⟩) ⟨fun k k1 k2 => by omega, none, none, none, rfl⟩
  rcases k with ⟨L', e, hno, x, y, z, eL⟩ | ⟨d, e, w, W, ed⟩
  · refine .inr ⟨hno, ?_⟩
    subst eL
    simp [f_clash, fnE, envOf, g_clash, rg, e]
  · refine .inl ⟨w, W, ?_⟩
    subst ed
    simp [f_clash, fnE, envOf, g_clash, rg, e]
theorem f_step_yes {p : List Say} {a b : Int} (h : Step p a b) : f__law_step [encP p, .int a, .int b] = .ok (.val (.bool true)) := by
  have k := forE_find (tg := tgN 3) (g := l__law_step_1) (enc := sayE) (fun L => ∃ x, L = [some (.val (encP p)), some (.val (.int a)), some (.val (.int b)), x]) (fun s => decide (s = (-a, b)) || decide (s = (b, -a))) (fun _ => .val (.bool true)) p [some (.val (encP p)), some (.val (.int a)), some (.val (.int b)), none] (fun s L hs ⟨x, e⟩ => by
    subst e
    have e1 := eq_say s (-a, b)
    have e2 := eq_say s (b, -a)
    simp only [sayE] at e1 e2
    refine ⟨[some (.val (encP p)), some (.val (.int a)), some (.val (.int b)), some (.val (sayE s))], rfl, fun h => ?_, fun h => ⟨[some (.val (encP p)), some (.val (.int a)), some (.val (.int b)), some (.val (sayE s))], .inl ?_, _, rfl⟩⟩ <;>
      (simp at h; simp [l__law_step_1, e1, e2, h])) ⟨none, rfl⟩
  rcases k with ⟨s, hs, ps, e, _⟩ | ⟨hn, L', e, x, eL⟩
  · simp [f__law_step, fnE, envOf, g__law_step, e]
  · obtain ⟨s, hs, z⟩ := h
    have := hn s hs
    simp at this
    rcases z with ⟨z1, z2⟩ | ⟨z1, z2⟩
    · exact absurd (Prod.ext z1 z2) this.1
    · exact absurd (Prod.ext z2 z1) this.2
theorem f_isroad {n : Nat} {p : List Say} {w : List Int} (h : IsRoad p w) (ok : ∀ x ∈ w, LitOk n x) (hl : w.length ≤ 1000) : f__law_is_road [encP p, encI w] = .ok (.val (.bool true)) := by
  have w0 := List.length_pos_iff.mpr h.ne
  have k1 := forE_ix (tg := tgN 2) (g := l__law_is_road_1) (enc := PyData.int) (fun _ => False) w (fun i L => ∃ x y, L = [some (.val (encP p)), some (.val (encI w)), x, y]) [some (.val (encP p)), some (.val (encI w)), none, none] (fun i L a ha ⟨x, y, eL⟩ => by
    subst eL
    have a0 := (ok a (List.mem_of_getElem? ha)).1
    exact ⟨_, rfl, .inl ⟨[some (.val (encP p)), some (.val (encI w)), some (.val (.int a)), y], .inl (by simp [l__law_is_road_1, f_whole, a0]), _, _, rfl⟩⟩) ⟨none, none, rfl⟩
  rcases k1 with ⟨L1, e1, x1, y1, eL1⟩ | ⟨d, _, q⟩
  · subst eL1
    have k2 := forE_rng (tg := tgN 3) (g := l__law_is_road_2) (fun _ => False) (w.length - 1) 0 (fun i L => ∃ x y, L = [some (.val (encP p)), some (.val (encI w)), x, y]) [some (.val (encP p)), some (.val (encI w)), x1, y1] (fun i L hi ⟨x, y, eL⟩ => by
      subst eL
      have a1 : atI (w.map PyData.int) ((i : Nat) : Int) = some (.int w[i]) := by
        rw [at_map', at_nat (show i < w.length by omega)]
        rfl
      have b1 : atI (w.map PyData.int) (((i : Nat) : Int) + 1) = some (.int w[i + 1]) := by
        rw [show ((i : Nat) : Int) + 1 = ((i + 1 : Nat) : Int) by omega, at_map', at_nat (show i + 1 < w.length by omega)]
        rfl
      have st := f_step_yes (h.step i w[i] w[i + 1] (List.getElem?_eq_getElem _) (List.getElem?_eq_getElem _))
      exact ⟨_, rfl, .inl ⟨[some (.val (encP p)), some (.val (encI w)), x, some (.val (.int (0 + (i : Int))))], .inl (by simp [l__law_is_road_2, a1, b1, st]), _, _, rfl⟩⟩) ⟨_, _, rfl⟩
    rcases k2 with ⟨L2, e2, x2, y2, eL2⟩ | ⟨d, _, q⟩
    · subst eL2
      have rg : rngP [.int ((w.length : Int) - 1)] = .ok (rng 0 (w.length - 1)) := by
        rw [show (w.length : Int) - 1 = ((w.length - 1 : Nat) : Int) by omega]
        exact rngN (by omega)
      simp [f__law_is_road, fnE, envOf, g__law_is_road, h.ne, e1, rg, e2]
    · exact q.elim
  · exact q.elim
theorem at_head {w : List Int} {a : Int} (h : w.head? = some a) : atI (w.map PyData.int) 0 = some (.int a) := by
  cases w with
  | nil => cases h
  | cons b t =>
    cases h
    rw [at_map', show (0 : Int) = ((0 : Nat) : Int) from rfl, at_nat (by simp)]
    rfl
theorem f_isring {n : Nat} {p : List Say} {w : List Int} (h : IsRing n p w) : f__law_is_ring [encP p, encI w] = .ok (.val (.bool true)) := by
  have r := f_isroad h.road h.ok h.len
  have k := forE_find (tg := tgN 2) (g := l__law_is_ring_1) (enc := PyData.int) (fun L => ∃ x, L = [some (.val (encP p)), some (.val (encI w)), x]) (fun a => decide (-a ∈ w)) (fun _ => .val (.bool true)) w [some (.val (encP p)), some (.val (encI w)), none] (fun a L ha ⟨x, e⟩ => by
    subst e
    refine ⟨[some (.val (encP p)), some (.val (encI w)), some (.val (.int a))], rfl, fun h => ?_, fun h => ⟨[some (.val (encP p)), some (.val (encI w)), some (.val (.int a))], .inl ?_, _, rfl⟩⟩ <;>
      (simp at h; simp [l__law_is_ring_1, h])) ⟨none, rfl⟩
  have a0 := at_head h.ends
  have a1 := at_last h.road.ne
  rcases k with ⟨s, hs, ps, e, _⟩ | ⟨hn, L', e, x, eL⟩
  · simp [f__law_is_ring, fnE, envOf, g__law_is_ring, r, a0, a1, e]
  · obtain ⟨k, k1, k2, _⟩ := h.both
    have := hn k k1
    rw [decide_eq_true k2] at this
    cases this
end
end Px
namespace Px
open PySem L2
noncomputable section
theorem f_isset {bs : List Bool} {n : Nat} (h : bs.length = n) : f__law_is_setting [encB bs, .int (n : Int)] = .ok (.val (.bool true)) := by
  have k := forE_ix (tg := tgN 2) (g := l__law_is_setting_1) (enc := PyData.bool) (fun _ => False) bs (fun i L => ∃ x, L = [some (.val (encB bs)), some (.val (.int (n : Int))), x]) [some (.val (encB bs)), some (.val (.int (n : Int))), none] (fun i L a ha ⟨x, eL⟩ => by
    subst eL
    exact ⟨_, rfl, .inl ⟨[some (.val (encB bs)), some (.val (.int (n : Int))), some (.val (.bool a))], .inl (by simp [l__law_is_setting_1]), _, rfl⟩⟩) ⟨none, rfl⟩
  rcases k with ⟨L', e, x, eL⟩ | ⟨d, _, q⟩
  · subst eL
    simp [f__law_is_setting, fnE, envOf, g__law_is_setting, h, e]
  · exact q.elim
theorem cat_PP (a b : List Say) (h : a.length + b.length ≤ 1000000) : catP (.list (a.map sayE)) (.list (b.map sayE)) = .ok (.own ((a ++ b).map sayE)) := by
  show cif _ _ _ = _
  rw [cif_pos (by rw [List.length_map, List.length_map]; exact h), List.map_append]
theorem PileOk.app {n : Nat} {a b : List Say} (ha : PileOk n a) (hb : PileOk n b) : PileOk n (a ++ b) := fun s hs => by
  rcases List.mem_append.mp hs with hs | hs
  · exact ha s hs
  · exact hb s hs
@[simp] theorem isN_encI (w : List Int) : isNon (encI w) = false := rfl
@[simp] theorem isN_encB (w : List Bool) : isNon (encB w) = false := rfl
theorem First.good' {n : Nat} {p : List Say} {S : List Int} {r : List Bool} (F : First n p S r) : r.length = n ∧ pileT r p = true := ⟨F.len, F.good⟩
theorem Shut.ring {n : Nat} {p : List Say} (h : Shut n p []) : ∃ k : Nat, 1 ≤ k ∧ k ≤ n ∧ Rc p (k : Int) (-(k : Int)) ∧ Rc p (-(k : Int)) (k : Int) := by
  rcases h with ⟨l, ⟨s, hs, _⟩, _⟩ | h
  · cases hs
  · exact h
end
end Px
namespace Px
open PySem L2
noncomputable section
theorem mem_foldT {p : List Say} {l x : Int} : ∀ {acc : List Int}, x ∈ p.foldl (stepTurn l) acc ↔ x ∈ acc ∨ Step p l x := by
  induction p with
  | nil =>
    intro acc
    constructor
    · exact .inl
    · rintro (z | ⟨s, hs, _⟩)
      · exact z
      · cases hs
  | cons s p ih =>
    intro acc
    rw [List.foldl_cons, ih, mem_stepTurn]
    constructor
    · rintro ((z | z) | ⟨s2, hs, z⟩)
      · exact .inl z
      · exact .inr ⟨s, List.mem_cons_self, z⟩
      · exact .inr ⟨s2, List.mem_cons_of_mem _ hs, z⟩
    · rintro (z | ⟨s2, hs, z⟩)
      · exact .inl (.inl z)
      · rcases List.mem_cons.mp hs with e | hs
        · subst e
          exact .inl (.inr z)
        · exact .inr ⟨s2, hs, z⟩
/-- grown behind a list, without repeats there -/
def Grown (S acc : List Int) : Prop := ∃ t, acc = S ++ t ∧ t.Nodup
theorem Grown.addIf {S acc : List Int} {c : Bool} {x : Int} (h : Grown S acc) : Grown S (addIf c x acc) := by
  obtain ⟨t, e, nd⟩ := h
  unfold Px.addIf
  split
  · rename_i k
    refine ⟨t ++ [x], by rw [e, List.append_assoc], ?_⟩
    rw [List.nodup_append]
    refine ⟨nd, List.nodup_cons.mpr ⟨List.not_mem_nil, List.nodup_nil⟩, fun a ha b hb e2 => ?_⟩
    rw [List.mem_singleton] at hb
    subst e2
    rw [hb] at ha
    exact k.2 (by rw [e]; exact List.mem_append_right _ ha)
  · exact ⟨t, e, nd⟩
theorem Grown.fold {S : List Int} {l : Int} : ∀ {p : List Say} {acc : List Int}, Grown S acc → Grown S (p.foldl (stepTurn l) acc)
  | [], acc, h => h
  | s :: p, acc, h => Grown.fold (p := p) h.addIf.addIf
theorem pre_stepTurn (l : Int) (acc : List Int) (s : Int × Int) : ∃ t, stepTurn l acc s = acc ++ t := by
  obtain ⟨t1, e1⟩ := pre_addIf (decide (s.1 = -l)) s.2 acc
  obtain ⟨t2, e2⟩ := pre_addIf (decide (s.2 = -l)) s.1 (addIf (decide (s.1 = -l)) s.2 acc)
  refine ⟨t1 ++ t2, ?_⟩
  unfold stepTurn
  rw [e2, e1, List.append_assoc]
theorem pre_fold (l : Int) : ∀ (p : List Say) (acc : List Int), ∃ t, p.foldl (stepTurn l) acc = acc ++ t
  | [], acc => ⟨[], by rw [List.append_nil]; rfl⟩
  | s :: p, acc => by
    obtain ⟨t1, e1⟩ := pre_stepTurn l acc s
    obtain ⟨t2, e2⟩ := pre_fold l p (stepTurn l acc s)
    refine ⟨t1 ++ t2, ?_⟩
    rw [List.foldl_cons, e2, e1, List.append_assoc]
theorem reach_turn (d0 d1 : D) (l a b : Int) (at' : Nat) (acc : List Int) (hat : acc[at']? = some l) (hl : acc.length < 900000) : l__law_reach_k16_2 [some d0, some d1, some (.own (acc.map PyData.int)), some (.val (.int (at' : Int))), some (.val (sayE (a, b)))] =
    .next [some d0, some d1, some (.own ((stepTurn l acc (a, b)).map PyData.int)), some (.val (.int (at' : Int))), some (.val (sayE (a, b)))] := by
  have ix : ∀ acc : List Int, acc[at']? = some l → atI (acc.map PyData.int) (at' : Int) = some (.int l) := fun acc h => by
    rw [at_map', atI_nat h]
    rfl
  have A : ∀ acc : List Int, acc.length < 1000000 → acc[at']? = some l → ifS (andT (op2 eqP (op2 ixP (varB 4) (constE (.int 0))) (op1 negP (op2 ixP (varB 2) (varB 3)))) (op2 (inP true) (op2 ixP (varB 4) (constE (.int 1))) (varB 2))) (pushS 2 (op2 ixP (varB 4) (constE (.int 1)))) (skipS)
      [some d0, some d1, some (.own (acc.map PyData.int)), some (.val (.int (at' : Int))), some (.val (sayE (a, b)))] = .next [some d0, some d1, some (.own ((addIf (decide (a = -l)) b acc).map PyData.int)), some (.val (.int (at' : Int))), some (.val (sayE (a, b)))] := by
    intro acc hl hat
    have i := ix acc hat
    unfold addIf
    by_cases e1 : a = -l
    · by_cases e2 : b ∈ acc
      · simp [i, e1, e2]
      · simp [i, e1, e2, hl]
    · simp [i, e1]
  have B : ∀ acc : List Int, acc.length < 1000000 → acc[at']? = some l → ifS (andT (op2 eqP (op2 ixP (varB 4) (constE (.int 1))) (op1 negP (op2 ixP (varB 2) (varB 3)))) (op2 (inP true) (op2 ixP (varB 4) (constE (.int 0))) (varB 2))) (pushS 2 (op2 ixP (varB 4) (constE (.int 0)))) (skipS)
      [some d0, some d1, some (.own (acc.map PyData.int)), some (.val (.int (at' : Int))), some (.val (sayE (a, b)))] = .next [some d0, some d1, some (.own ((addIf (decide (b = -l)) a acc).map PyData.int)), some (.val (.int (at' : Int))), some (.val (sayE (a, b)))] := by
    intro acc hl hat
    have i := ix acc hat
    unfold addIf
    by_cases e1 : b = -l
    · by_cases e2 : a ∈ acc
      · simp [i, e1, e2]
      · simp [i, e1, e2, hl]
    · simp [i, e1]
  have h2 := addIf_len (decide (a = -l)) b acc
  obtain ⟨t1, e1⟩ := pre_addIf (decide (a = -l)) b acc
  unfold l__law_reach_k16_2
  rw [seq_d, A acc (by omega) hat, thn_n, B _ (by omega) (by rw [e1, List.getElem?_append_left (List.getElem?_eq_some_iff.mp hat).1]; exact hat)]
  rfl
theorem reach_in (d0 d1 : D) (l : Int) (at' : Nat) : ∀ (p : List Say) (acc : List Int) (x : Option D), acc[at']? = some l → acc.length + 2 * p.length < 900000 → ∃ x', forE (tgN 4) l__law_reach_k16_2 (p.map sayE)
    [some d0, some d1, some (.own (acc.map PyData.int)), some (.val (.int (at' : Int))), x] = .next [some d0, some d1, some (.own ((p.foldl (stepTurn l) acc).map PyData.int)), some (.val (.int (at' : Int))), x']
  | [], acc, x, _, _ => ⟨x, rfl⟩
  | (a, b) :: p, acc, x, hat, h => by
    rw [List.length_cons] at h
    have hl := stepTurn_len l acc (a, b)
    obtain ⟨t, et⟩ := pre_stepTurn l acc (a, b)
    obtain ⟨x2, e2⟩ := reach_in d0 d1 l at' p (stepTurn l acc (a, b)) (some (.val (sayE (a, b)))) (by rw [et, List.getElem?_append_left (List.getElem?_eq_some_iff.mp hat).1]; exact hat) (by omega)
    refine ⟨x2, ?_⟩
    have b := reach_turn d0 d1 l a b at' acc hat (by omega)
    rw [List.map_cons, forE_c]
    simp [b]
    exact e2
structure ReachI (p : List Say) (S found : List Int) (at' : Nat) : Prop where
  pre : Grown S found
  from' : ∀ y ∈ found, Rd2 p S y
  done : ∀ i y, i < at' → found[i]? = some y → ∀ z, Step p y z → z ∈ found
  le : at' ≤ found.length
theorem f_reach {n : Nat} {p : List Say} {S : List Int} (hn : n ≤ 100) (hl : p.length ≤ 1000) (hp : PileOk n p) (hS : ∀ y ∈ S, LitOk n y) (hSl : S.length ≤ 1000) :
    ∃ C : List Int, f__law_reach_k16 [encP p, encI S] = .ok (.own (C.map PyData.int)) ∧ (∀ y, y ∈ C ↔ Rd2 p S y) := by
  have post := while_ok (t := op2 ltP (varB 3) (op1 lenP (varB 2))) (g := l__law_reach_k16_1)
    (fun m L => ∃ found at' z, ReachI p S found at' ∧ m = S.length + 2 * n - at' ∧ L = [some (.val (encP p)), some (.val (encI S)), some (.own (found.map PyData.int)), some (.val (.int (at' : Nat))), z])
    (fun o => ∃ found at' z, ReachI p S found at' ∧ at' = found.length ∧ o = .next [some (.val (encP p)), some (.val (encI S)), some (.own (found.map PyData.int)), some (.val (.int (at' : Nat))), z])
    (fun m L ⟨found, at', z, I, em, eL⟩ => by
      have fl : found.length ≤ S.length + 2 * n := by
        obtain ⟨t, et, nd⟩ := I.pre
        have := lits_len (n := n) nd fun y hy => (I.from' y (by rw [et]; exact List.mem_append_right _ hy)).ok hp hS
        rw [et, List.length_append]
        omega
      subst eL
      by_cases c : at' < found.length
      · refine .inr ⟨by simp [c], .inl ?_⟩
        have hx : found[at']? = some found[at'] := List.getElem?_eq_getElem c
        obtain ⟨l, el⟩ : ∃ l, l = found[at'] := ⟨_, rfl⟩
        rw [← el] at hx
        obtain ⟨z', e3⟩ := reach_in (.val (encP p)) (.val (encI S)) l at' p found z hx (by omega)
        obtain ⟨t, et⟩ := pre_fold l p found
        refine ⟨[some (.val (encP p)), some (.val (encI S)), some (.own ((p.foldl (stepTurn l) found).map PyData.int)), some (.val (.int ((at' + 1 : Nat) : Int))), z'], S.length + 2 * n - (at' + 1), .inl ?_, by omega, p.foldl (stepTurn l) found, at' + 1, z', ⟨I.pre.fold, fun y hy => ?_, fun i y hi hy w s => ?_, ?_⟩, rfl, rfl⟩
        · simp [l__law_reach_k16_1, e3]
        · rcases mem_foldT.mp hy with hy | hy
          · exact I.from' y hy
          · exact (I.from' l (List.mem_of_getElem? hx)).step hy
        · have hi2 : i < found.length := by omega
          rw [et, List.getElem?_append_left hi2] at hy
          by_cases ci : i = at'
          · subst ci
            rw [hx] at hy
            cases hy
            exact mem_foldT.mpr (.inr s)
          · exact mem_foldT.mpr (.inl (I.done i y (by omega) hy w s))
        · rw [et, List.length_append]
          omega
      · exact .inl ⟨by simp [c], found, at', z, I, by have := I.le; omega, rfl⟩)
    (S.length + 2 * n) [some (.val (encP p)), some (.val (encI S)), some (.own (S.map PyData.int)), some (.val (.int ((0 : Nat) : Int))), none] ⟨S, 0, none, ⟨⟨[], by rw [List.append_nil], List.nodup_nil⟩, fun y hy => .of hy, fun i y hi => absurd hi (Nat.not_lt_zero i), Nat.zero_le _⟩, rfl, rfl⟩ (by omega)
  obtain ⟨found, at', z, I, ea, eo⟩ := post
  have go : ∀ {s y : Int}, Rc p s y → s ∈ found → y ∈ found := fun {s y} r hs => by
    induction r with
    | refl => exact hs
    | tail _ st ih =>
      obtain ⟨i, hi, e⟩ := List.getElem_of_mem ih
      exact I.done i _ (by omega) (by rw [List.getElem?_eq_getElem hi, e]) _ st
  refine ⟨found, ?_, fun y => ⟨I.from' y, fun h => go h.choose_spec.2 (by obtain ⟨t, et, _⟩ := I.pre; rw [et]; exact List.mem_append_left _ h.choose_spec.1)⟩⟩
  simp at eo
  simp [f__law_reach_k16, fnE, envOf, g__law_reach_k16, eo]
theorem f_torn (C : List Int) : f__law_torn_k16 [encI C] = .ok (.val (.bool (!untornB C))) := by
  have k := forE_find (tg := tgN 1) (g := l__law_torn_k16_1) (enc := PyData.int) (fun L => ∃ x, L = [some (.val (encI C)), x]) (fun l => decide (-l ∈ C)) (fun _ => .val (.bool true)) C [some (.val (encI C)), none] (fun a L _ ⟨x, e⟩ => by
    subst e
    refine ⟨[some (.val (encI C)), some (.val (.int a))], rfl, fun h => ?_, fun h => ⟨[some (.val (encI C)), some (.val (.int a))], .inl ?_, _, rfl⟩⟩
    · have h := of_decide_eq_true h
      simp [l__law_torn_k16_1, h]
    · have h := of_decide_eq_false h
      simp [l__law_torn_k16_1, h]) ⟨none, rfl⟩
  rcases k with ⟨a, ha, pa, e, _⟩ | ⟨hn, L', e, x, eL⟩
  · have hu : untornB C = false := by
      unfold untornB
      rw [List.all_eq_false]
      exact ⟨a, ha, by rw [pa]; decide⟩
    rw [hu]
    simp [f__law_torn_k16, fnE, envOf, g__law_torn_k16, e]
  · have hu : untornB C = true := by
      unfold untornB
      rw [List.all_eq_true]
      intro l hl
      rw [hn l hl]
      rfl
    rw [hu]
    subst eL
    simp [f__law_torn_k16, fnE, envOf, g__law_torn_k16, e]
/-- torn, asked by the law's way -/
theorem f_asked {n : Nat} {p : List Say} {S : List Int} (hn : n ≤ 100) (hl : p.length ≤ 1000) (hp : PileOk n p) (hS : ∀ y ∈ S, LitOk n y) (hSl : S.length ≤ 1000) :
    ∃ (C : List Int) (b : Bool), f__law_reach_k16 [encP p, encI S] = .ok (.own (C.map PyData.int)) ∧ f__law_torn_k16 [encI C] = .ok (.val (.bool b)) ∧ (Torn p S → b = true) := by
  obtain ⟨C, e, m⟩ := f_reach hn hl hp hS hSl
  refine ⟨C, !untornB C, e, f_torn C, fun ⟨l, h1, h2⟩ => ?_⟩
  cases u : untornB C with
  | false => rfl
  | true => exact (untorn_iff.mp u l ((m l).mpr h1) ((m _).mpr h2)).elim
theorem f_lits {w : List Bool} {m : Nat} (hm : m ≤ w.length) (hw : w.length ≤ 1000) : f__law_lits_k16 [encB w, .int (m : Int)] = .ok (.own ((litsOf w m).map PyData.int)) := by
  have rg := rng1n (n := m) (by omega)
  have lc : lcR 2 yesT (iteE (op1 asB (op2 ixP (varB 0) (op2 subP (varB 2) (constE (.int 1))))) (varE 2) (op1 negP (varB 2))) (rng 1 m) [some (.val (encB w)), some (.val (.int (m : Int))), none] = .ok (.own ((litsOf w m).map PyData.int)) :=
    lits_lc hm hw fun i hi => by
      have := bits_at (w := w) (i := i) (by omega)
      simp [this]
      cases w[i]?.getD false <;> simp <;> omega
  simp [f__law_lits_k16, fnE, envOf, g__law_lits_k16, rg, lc]
theorem wish_same {w r : List Bool} {m : Nat} (h : ∀ y ∈ litsOf w m, litT r y = true) {i : Nat} (hi : i < m) : r.getD i false = w.getD i false := by
  have k1 : 1 ≤ i + 1 := by omega
  have ok : LitOk (i + 1) ((i + 1 : Nat) : Int) := litOk_nat k1 (Nat.le_refl _)
  have lr := litT_nat (w := r) k1
  have lw := litT_nat (w := w) k1
  rw [Nat.add_sub_cancel] at lr lw
  cases c : w.getD i false with
  | true =>
    have := h ((i + 1 : Nat) : Int) (mem_lits.mpr ⟨ok.1, by omega, by rw [lw]; exact c⟩)
    rw [lr] at this
    exact this
  | false =>
    have := h (-((i + 1 : Nat) : Int)) (mem_lits.mpr ⟨by omega, by omega, by rw [litT_neg ok, lw, c]; rfl⟩)
    rw [litT_neg ok, lr] at this
    cases e : r.getD i false with
    | false => rfl
    | true => rw [e] at this; cases this
theorem sh_two {a b : PD} (ha : Sh 2 a) (hb : Sh 2 b) : Sh 3 (.list [a, b]) := Sh.list fun d hd => by
  simp at hd
  rcases hd with rfl | rfl
  · exact ha
  · exact hb
theorem ev_two (a b : PD) (ha : PyData.eqv a a = true) (hb : PyData.eqv b b = true) : PyData.eqv (.list [a, b]) (.list [a, b]) = true := by
  unfold PyData.eqv PyData.eqvAll PyData.eqvAll PyData.eqvAll
  rw [ha, hb]
  rfl
theorem ev_PI (p : List Say) (S : List Int) : PyData.eqv (.list [encP p, encI S]) (.list [encP p, encI S]) = true := ev_two _ _ (by rw [ev_P]; simp) (by rw [ev_I]; simp)
theorem ev_PB (p : List Say) (S : List Bool) : PyData.eqv (.list [encP p, encB S]) (.list [encP p, encB S]) = true := ev_two _ _ (by rw [ev_P]; simp) (by rw [ev_B]; simp)
theorem ne_PI (p : List Say) (S : List Int) : neP (.list [encP p, encI S]) (.list [encP p, encI S]) = .ok false := by
  rw [ne_of' (sh_two (sh_P p) ((sh_I S).mono (by decide))) (sh_two (sh_P p) ((sh_I S).mono (by decide))) (by decide), ev_PI]
  rfl
theorem ne_PB (p : List Say) (S : List Bool) : neP (.list [encP p, encB S]) (.list [encP p, encB S]) = .ok false := by
  rw [ne_of' (sh_two (sh_P p) ((sh_B S).mono (by decide))) (sh_two (sh_P p) ((sh_B S).mono (by decide))) (by decide), ev_PB]
  rfl
theorem eq_PB (p : List Say) (S : List Bool) : eqP (.list [encP p, encB S]) (.list [encP p, encB S]) = .ok true := by
  rw [eq_of (sh_two (sh_P p) ((sh_B S).mono (by decide))) (sh_two (sh_P p) ((sh_B S).mono (by decide))) (by decide), ev_PB]
end
end Px
namespace Px
open PySem L2
noncomputable section
def dblP (W : List Int) : List Say := W.map fun l => (l, l)
theorem dblP_lc {j : Nat} {L : Env} (W : List Int) (hW : W.length ≤ 1000) {f : Env → R PD} (h : ∀ l : Int, f (setE (setE L j none) j (some (.val (.int l)))) = .ok (sayE (l, l))) : lcR j yesT f (W.map PyData.int) L = .ok (.own ((dblP W).map sayE)) := by
  have k := lcE_yes (j := j) (f := f) (L := setE L j none) (v := fun d => match d with | .int i => sayE (i, i) | _ => .none) (W.map PyData.int) (fun d hd => by
    obtain ⟨i, _, ei⟩ := List.mem_map.mp hd
    subst ei
    exact h i)
  refine lcR_ok' (by rw [List.length_map]; omega) ?_
  unfold dblP
  rw [k, List.map_map, List.map_map]
  rfl
theorem dblP_ok {n : Nat} {W : List Int} (h : ∀ y ∈ W, LitOk n y) : PileOk n (dblP W) := fun s hs => by
  obtain ⟨l, hl, e⟩ := List.mem_map.mp hs
  subst e
  exact ⟨h l hl, h l hl⟩
theorem dblP_true {r : List Bool} {W : List Int} : pileT r (dblP W) = true ↔ ∀ y ∈ W, litT r y = true := by
  unfold pileT dblP
  rw [List.all_eq_true]
  constructor
  · intro h y hy
    have := h (y, y) (List.mem_map.mpr ⟨y, hy, rfl⟩)
    unfold sayT at this
    simpa using this
  · intro h s hs
    obtain ⟨l, hl, e⟩ := List.mem_map.mp hs
    subst e
    unfold sayT
    rw [h l hl]
    rfl
theorem dblP_len (W : List Int) : (dblP W).length = W.length := List.length_map _
theorem pileT_app {r : List Bool} {p q : List Say} : pileT r (p ++ q) = (pileT r p && pileT r q) := List.all_append
end
end Px
namespace Px
open PySem L2
noncomputable section
def litsAll (n : Nat) : List Int := (List.range n).flatMap fun (i : Nat) => [(i : Int) + 1, -((i : Int) + 1)]
theorem litsAll_s (n : Nat) : litsAll (n + 1) = litsAll n ++ [(n : Int) + 1, -((n : Int) + 1)] := by
  unfold litsAll
  rw [List.range_succ, List.flatMap_append]
  rfl
theorem litsAll_len : ∀ n : Nat, (litsAll n).length = 2 * n
  | 0 => rfl
  | n + 1 => by
    rw [litsAll_s, List.length_append, litsAll_len n]
    rfl
theorem mem_litsAll : ∀ {n : Nat} {l : Int}, l ∈ litsAll n ↔ LitOk n l
  | 0, l => by
    constructor
    · intro h; cases h
    · rintro ⟨h0, h1⟩
      omega
  | n + 1, l => by
    rw [litsAll_s, List.mem_append, mem_litsAll]
    unfold LitOk
    simp only [List.mem_cons, List.not_mem_nil, or_false]
    omega
open Classical in
def isSet (p : List Say) (l : Int) : Bool := decide (Rc p (-l) l)
open Classical in
theorem isSet_iff {p : List Say} {l : Int} : isSet p l = true ↔ Rc p (-l) l := by
  unfold isSet
  exact ⟨fun h => of_decide_eq_true h, fun h => decide_eq_true h⟩
def setOf (n : Nat) (p : List Say) : List Int := (litsAll n).filter (isSet p)
theorem mem_setOf {n : Nat} {p : List Say} {l : Int} : l ∈ setOf n p ↔ LitOk n l ∧ Rc p (-l) l := by
  unfold setOf
  rw [List.mem_filter, mem_litsAll, isSet_iff]
theorem setOf_len (n : Nat) (p : List Say) : (setOf n p).length ≤ 2 * n := by
  have := List.length_filter_le (isSet p) (litsAll n)
  rw [litsAll_len] at this
  exact this
theorem settled_one {n : Nat} {p : List Say} (hn : n ≤ 100) (hl : p.length ≤ 1000) (hp : PileOk n p) {l : Int} (hk : LitOk n l) (acc : List Int) (ha : acc.length < 1000000) (x : Option D) : l_settled_2 [some (.val (.int (n : Int))), some (.val (encP p)), some (.own (acc.map PyData.int)), x, some (.val (.int l))] =
    .next [some (.val (.int (n : Int))), some (.val (encP p)), some (.own ((acc ++ [l].filter (isSet p)).map PyData.int)), x, some (.val (.int l))] := by
  rcases f_road_ok (g := l) hn hl hp (litOk_neg hk) with ⟨w, W, wl, e⟩ | ⟨no, e⟩
  · have c : isSet p l = true := isSet_iff.mpr W.rc
    simp [l_settled_2, e, c, ha]
  · have c : isSet p l = false := by
      cases z : isSet p l with
      | false => rfl
      | true => exact (no (isSet_iff.mp z)).elim
    simp [l_settled_2, e, c]
theorem f_settled_ok {n : Nat} {p : List Say} (hn : n ≤ 100) (hl : p.length ≤ 1000) (hp : PileOk n p) :
    ((∃ r, First n p [] r) ∧ f_settled [.int (n : Int), encP p] = .ok (.own ((setOf n p).map PyData.int))) ∨ (Shut n p [] ∧ f_settled [.int (n : Int), encP p] = .exc ("NoSetting" : Str)) := by
  have k := forE_rng (tg := tgN 3) (g := l_settled_1) (fun _ => False) n 1 (fun i L => ∃ x y, L = [some (.val (.int (n : Int))), some (.val (encP p)), some (.own ((setOf i p).map PyData.int)), x, y]) [some (.val (.int (n : Int))), some (.val (encP p)), some (.own []), none, none] (fun i L hi ⟨x, y, eL⟩ => by
    subst eL
    have e1 : (1 : Int) + (i : Int) = (i : Int) + 1 := by omega
    rw [e1]
    have ok : LitOk n ((i : Int) + 1) := ⟨by omega, by omega⟩
    have sl := setOf_len i p
    have f1 := List.length_filter_le (isSet p) [(i : Int) + 1]
    have o1 := settled_one hn hl hp ok (setOf i p) (by omega) (some (.val (.int ((i : Int) + 1))))
    have o2 := settled_one hn hl hp (litOk_neg ok) (setOf i p ++ [(i : Int) + 1].filter (isSet p)) (by rw [List.length_append]; simp only [List.length_singleton] at f1; omega) (some (.val (.int ((i : Int) + 1))))
    have es : setOf (i + 1) p = setOf i p ++ [(i : Int) + 1].filter (isSet p) ++ [-((i : Int) + 1)].filter (isSet p) := by
      unfold setOf
      rw [litsAll_s, show [(i : Int) + 1, -((i : Int) + 1)] = [(i : Int) + 1] ++ [-((i : Int) + 1)] from rfl, List.filter_append, List.filter_append, List.append_assoc]
    rw [← es] at o2
    refine ⟨_, rfl, .inl ⟨[some (.val (.int (n : Int))), some (.val (encP p)), some (.own ((setOf (i + 1) p).map PyData.int)), some (.val (.int ((i : Int) + 1))), some (.val (.int (-((i : Int) + 1))))], .inl ?_, _, _, rfl⟩⟩
    show forE (tgN 4) l_settled_2 [.int ((i : Int) + 1), .int (-((i : Int) + 1))] [some (.val (.int (n : Int))), some (.val (encP p)), some (.own ((setOf i p).map PyData.int)), some (.val (.int ((i : Int) + 1))), y] = _
    rw [forE_c, tgN_d, out_ok']
    show (l_settled_2 [some (.val (.int (n : Int))), some (.val (encP p)), some (.own ((setOf i p).map PyData.int)), some (.val (.int ((i : Int) + 1))), some (.val (.int ((i : Int) + 1)))]).turn _ = _
    rw [o1, turn_n, forE_c, tgN_d, out_ok']
    show (l_settled_2 [some (.val (.int (n : Int))), some (.val (encP p)), some (.own ((setOf i p ++ [(i : Int) + 1].filter (isSet p)).map PyData.int)), some (.val (.int ((i : Int) + 1))), some (.val (.int (-((i : Int) + 1))))]).turn _ = _
    rw [o2]
    rfl) ⟨none, none, rfl⟩
  have rg := rng1n (show n ≤ 1000 by omega)
  have test : ∀ {d : D} {b : Bool}, f_least [.int (n : Int), encP p] = .ok d → asNone d = .ok b → callN f_least (argsE [varB 0, varB 1]) [some (.val (.int (n : Int))), some (.val (encP p)), none, none, none] = .ok b := fun {d b} h1 h2 => by
    unfold callN
    simp only [argsE_c, argsE_n, varB_d, getE_z, getE_s, slotB_v, bind_ok', h1, h2]
  rcases f_least_ok hn hl hp with ⟨r, F, e⟩ | ⟨S, e⟩
  · have t := test e (show asNone _ = .ok false from rfl)
    refine .inl ⟨⟨r, F⟩, ?_⟩
    rcases k with ⟨L', e, x, y, eL⟩ | ⟨d, _, q⟩
    · subst eL
      simp [f_settled, fnE, envOf, g_settled, t, rg, e]
    · exact q.elim
  · have t := test e (show asNone _ = .ok true from rfl)
    refine .inr ⟨S, ?_⟩
    simp [f_settled, fnE, envOf, g_settled, t]
end
end Px
namespace Px
open PySem L2
noncomputable section
def NoRing (n : Nat) (p : List Say) : Prop := ∀ k : Nat, 1 ≤ k → k ≤ n → ¬ (Rc p (k : Int) (-(k : Int)) ∧ Rc p (-(k : Int)) (k : Int))
inductive WhyIs (n : Nat) (p : List Say) (s : Say) : R D → Prop
  | ring (w : List Int) (h : IsRing n p w) : WhyIs n p s (.ok (.val (.tuple [.str ("ring" : Str), encI w])))
  | road (w : List Int) (a b : Int) (no : NoRing n p) (h : RoadOk p a b w) (len : w.length ≤ 2 * n) (ok : LitOk n a) (ha : a = -s.1 ∨ a = -s.2) (hb : b = s.1 ∨ b = s.2) : WhyIs n p s (.ok (.val (.tuple [.str ("road" : Str), encI w])))
  | none (no : NoRing n p) (h1 : ¬ Rc p (-s.1) s.2) (h2 : ¬ Rc p (-s.1) s.1) (h3 : ¬ Rc p (-s.2) s.2) : WhyIs n p s (.ok (.val .none))
theorem f_why_ok {n : Nat} {p : List Say} {s : Say} (hn : n ≤ 100) (hl : p.length ≤ 1000) (hp : PileOk n p) (hs : SayOk n s) : WhyIs n p s (f_why [.int (n : Int), encP p, sayE s]) := by
  obtain ⟨a, b⟩ := s
  have n1 : LitOk n (-a) := litOk_neg hs.1
  have n2 : LitOk n (-b) := litOk_neg hs.2
  rcases f_clash_ok hn hl hp with ⟨w, W, ew⟩ | ⟨no, ew⟩
  · have e : f_why [.int (n : Int), encP p, sayE (a, b)] = .ok (.val (.tuple [.str ("ring" : Str), encI w])) := by
      simp [f_why, fnE, envOf, g_why, ew]
    rw [e]
    exact .ring w W
  · have no : NoRing n p := no
    rcases f_road_ok (s := -a) (g := b) hn hl hp n1 with ⟨w, W, wl, e1⟩ | ⟨h1, e1⟩
    · have e : f_why [.int (n : Int), encP p, sayE (a, b)] = .ok (.val (.tuple [.str ("road" : Str), encI w])) := by
        simp [f_why, fnE, envOf, g_why, ew, forE_c, forE_n, l_why_1, e1]
      rw [e]
      exact .road w _ _ no W wl n1 (.inl rfl) (.inr rfl)
    · rcases f_road_ok (s := -a) (g := a) hn hl hp n1 with ⟨w, W, wl, e2⟩ | ⟨h2, e2⟩
      · have e : f_why [.int (n : Int), encP p, sayE (a, b)] = .ok (.val (.tuple [.str ("road" : Str), encI w])) := by
          simp [f_why, fnE, envOf, g_why, ew, forE_c, forE_n, l_why_1, e1, e2]
        rw [e]
        exact .road w _ _ no W wl n1 (.inl rfl) (.inl rfl)
      · rcases f_road_ok (s := -b) (g := b) hn hl hp n2 with ⟨w, W, wl, e3⟩ | ⟨h3, e3⟩
        · have e : f_why [.int (n : Int), encP p, sayE (a, b)] = .ok (.val (.tuple [.str ("road" : Str), encI w])) := by
            simp [f_why, fnE, envOf, g_why, ew, forE_c, forE_n, l_why_1, e1, e2, e3]
          rw [e]
          exact .road w _ _ no W wl n2 (.inr rfl) (.inr rfl)
        · have e : f_why [.int (n : Int), encP p, sayE (a, b)] = .ok (.val .none) := by
            simp [f_why, fnE, envOf, g_why, ew, forE_c, forE_n, l_why_1, e1, e2, e3]
          rw [e]
          exact .none no h1 h2 h3
theorem f_against_ok {n : Nat} {p : List Say} {s : Say} (hn : n ≤ 100) (hl : p.length ≤ 1000) (hp : PileOk n p) (hs : SayOk n s) :
    (∃ r, First n p [-s.1, -s.2] r ∧ f_against [.int (n : Int), encP p, sayE s] = .ok (.own (r.map PyData.bool))) ∨ (Shut n p [-s.1, -s.2] ∧ f_against [.int (n : Int), encP p, sayE s] = .ok (.val .none)) := by
  rcases f_lw (S := [-s.1, -s.2]) hn hl hp (fun y hy => by
    simp at hy
    rcases hy with rfl | rfl
    · exact litOk_neg hs.1
    · exact litOk_neg hs.2) (by simp) with ⟨r, F, e⟩ | ⟨h, e⟩
  · refine .inl ⟨r, F, ?_⟩
    simp only [encI, List.map_cons, List.map_nil] at e
    simp [f_against, fnE, envOf, g_against, e]
  · refine .inr ⟨h, ?_⟩
    simp only [encI, List.map_cons, List.map_nil] at e
    simp [f_against, fnE, envOf, g_against, e]
/-- what follows and what does not -/
theorem WhyIs.no {n : Nat} {p : List Say} {s : Say} {r : R D} {w : List Bool} (h : WhyIs n p s r) (hp : PileOk n p) (hs : SayOk n s) (hw : pileT w p = true) (off : sayT w s = false) : r = .ok (.val .none) := by
  have off1 : litT w s.1 = false ∧ litT w s.2 = false := by
    unfold sayT at off
    simpa using off
  cases h with
  | ring v V =>
    obtain ⟨k, k1, k2, r1, r2⟩ := V.both
    exact (ring_no hp hw (V.ok k k1) r1 r2).elim
  | road v a b no V len ok ha hb =>
    have ta : litT w a = true := by
      rcases ha with rfl | rfl
      · rw [litT_neg hs.1, off1.1]; rfl
      · rw [litT_neg hs.2, off1.2]; rfl
    have tb := V.rc.sound hp hw ta
    rcases hb with rfl | rfl
    · rw [off1.1] at tb; cases tb
    · rw [off1.2] at tb; cases tb
  | none => rfl
end
end Px
namespace Px
open PySem L2
noncomputable section
@[simp] theorem many_b (n : Int) (ds : List PD) : manyP (bkD n ds) = .ok (.int n) := rfl
@[simp] theorem held_b (n : Int) (ds : List PD) : heldP (bkD n ds) = .ok (.list ds) := rfl
@[simp] theorem self_b (n : Int) (ds : List PD) : selfP (bkD n ds) = .ok (bkD n ds) := rfl
@[simp] theorem callM0_d (fc : List PD → R D) (fo : Env → R PD) (L : Env) : callM0 fc fo L = (fo L).bind fun d => (selfP d).bind fun s => fc [s] := rfl
@[simp] theorem callM_d (fc : List PD → R D) (fo : Env → R PD) (fs : Env → R (List PD)) (L : Env) : callM fc fo fs L = (fo L).bind fun d => (selfP d).bind fun s => (fs L).bind fun ds => fc (s :: ds) := rfl
@[simp] theorem drop_d (f : Env → R D) (L : Env) : dropS f L = (f L).out fun _ => .next L := rfl
theorem f_says_b (n : Int) (ds : List PD) : f_m_says [bkD n ds] = .ok (.own ds) := by
  simp [f_m_says, fnE, envOf, g_m_says]
theorem fin_out (r : R D) : finish (r.out fun d => .ret d) = r := by cases r <;> rfl
theorem f_set_b (n : Int) (ds : List PD) : f_m_setting [bkD n ds] = f_least [.int n, .list ds] := by
  simp [f_m_setting, fnE, envOf, g_m_setting, fin_out]
theorem f_ring_b (n : Int) (ds : List PD) : f_m_ring [bkD n ds] = f_clash [.int n, .list ds] := by
  simp [f_m_ring, fnE, envOf, g_m_ring, fin_out]
theorem f_first {n : Nat} {p : List Say} {S : List Int} {r : List Bool} (hn : n ≤ 100) (hl : p.length ≤ 1000) (hp : PileOk n p) (hS : ∀ y ∈ S, LitOk n y) (hSl : S.length ≤ 200) (F : First n p S r) :
    f__law_first_k12 [encP p, encI S, encB r] = .ok (.val (.bool true)) := by
  have rl := F.len
  have k := forE_rng (tg := tgN 3) (g := l__law_first_k12_1) (fun _ => False) n 1 (fun i L => ∃ x, L = [some (.val (encP p)), some (.val (encI S)), some (.val (encB r)), x]) [some (.val (encP p)), some (.val (encI S)), some (.val (encB r)), none] (fun i L hi ⟨x, eL⟩ => by
    subst eL
    obtain ⟨k, hk⟩ : ∃ k : Nat, k = i + 1 := ⟨_, rfl⟩
    have ek : (1 : Int) + (i : Int) = (k : Int) := by omega
    have ek2 : (k : Int) - 1 = (i : Int) := by omega
    have ix : atI (r.map PyData.bool) ((i : Nat) : Int) = some (.bool (r.getD i false)) := by
      have := bits_at (w := r) (i := i) (by omega)
      rw [show 1 + (i : Int) - 1 = (i : Int) by omega] at this
      exact this
    rw [ek]
    refine ⟨_, rfl, .inl ⟨[some (.val (encP p)), some (.val (encI S)), some (.val (encB r)), some (.val (.int (k : Int)))], .inl ?_, _, rfl⟩⟩
    cases cb : r.getD i false with
    | false =>
      rw [cb] at ix
      simp [l__law_first_k12_1, ek2, ix]
    | true =>
      rw [cb] at ix
      have okk := litOk_nat (n := n) (k := k) (by omega) (by omega)
      obtain ⟨C, b, e1, e2, hb⟩ := f_asked (S := S ++ litsOf r i ++ [-(k : Int)]) hn hl hp (fun y hy => by
        rw [List.mem_append, List.mem_append, List.mem_singleton] at hy
        rcases hy with (hy | hy) | hy
        · exact hS y hy
        · exact litsOf_ok (by omega) r y hy
        · rw [hy]; exact litOk_neg okk) (by rw [List.length_append, List.length_append, litsOf_len, List.length_singleton]; omega)
      have tk := F.torn k (by omega) (by omega) (by rw [litT_nat (by omega), show k - 1 = i by omega]; exact cb)
      rw [show k - 1 = i by omega] at tk
      have hb := hb tk
      subst hb
      have lt := f_lits (w := r) (m := i) (by omega) (by omega)
      have ca1 := cat_II S (litsOf r i) (by rw [litsOf_len]; omega)
      have ca2 := cat_I1 (S ++ litsOf r i) (-(k : Int)) (by rw [List.length_append, litsOf_len]; omega)
      simp only [encI, List.map_append, List.map_cons, List.map_nil] at e1 ca1 ca2 e2 lt
      rw [List.append_assoc] at e1
      simp [l__law_first_k12_1, ek2, ix, lt, ca1, ca2, e1, e2]) ⟨none, rfl⟩
  rcases k with ⟨L', e, x, eL⟩ | ⟨d, _, q⟩
  · subst eL
    have rg := rng1n (n := n) (by omega)
    rw [← rl] at rg e
    simp [f__law_first_k12, fnE, envOf, g__law_first_k12, rg, e]
  · exact q.elim
theorem f_told {n : Nat} {P : List Say} (hn : n ≤ 100) (lP : P.length ≤ 1000) (hP : PileOk n P) : f__law_told [bkD n (P.map sayE), encP P] = .ok (.val (.bool true)) := by
  rcases f_least_ok (n := n) hn lP hP with ⟨r, F, er⟩ | ⟨S, er⟩
  · have e2 : f_clash [.int (n : Int), encP P] = .ok (.val .none) := by
      rcases f_clash_ok (n := n) hn lP hP with ⟨w, W, ew⟩ | ⟨_, e⟩
      · obtain ⟨k, k1, k2, r1, r2⟩ := W.both
        exact (ring_no hP F.good (W.ok k k1) r1 r2).elim
      · exact e
    have s1 := f_isset F.len
    have t1 := f_alltrue (bs := r) (p := P) (by rw [F.len]; exact hP)
    have fi := f_first hn lP hP (S := []) (fun y hy => by cases hy) (by simp) F
    simp only [encI, List.map_nil] at fi
    simp [f__law_told, fnE, envOf, g__law_told, f_set_b, f_ring_b, er, e2, s1, t1, F.good, fi]
  · obtain ⟨k, k1, k2, r1, r2⟩ := S.ring
    rcases f_clash_ok (n := n) hn lP hP with ⟨w, W, ew⟩ | ⟨no, e⟩
    · have rr := f_isring W
      simp [f__law_told, fnE, envOf, g__law_told, f_set_b, f_ring_b, er, ew, rr]
    · exact (no k k1 k2 ⟨r1, r2⟩).elim
inductive AskIs (n : Nat) (P : List Say) (s : Say) : R D → Prop
  | ring (w : List Int) (h : IsRing n P w) (no : f_least [.int (n : Int), encP P] = .ok (.val .none)) : AskIs n P s (.ok (.val (.tuple [.str ("ring" : Str), encI w])))
  | road (w : List Int) (a b : Int) (h : RoadOk P a b w) (len : w.length ≤ 2 * n) (ok : LitOk n a) (ha : a = -s.1 ∨ a = -s.2) (hb : b = s.1 ∨ b = s.2) (r : List Bool) (e : f_least [.int (n : Int), encP P] = .ok (.own (r.map PyData.bool))) : AskIs n P s (.ok (.val (.tuple [.str ("road" : Str), encI w])))
  | setting (r : List Bool) (F : First n P [-s.1, -s.2] r) : AskIs n P s (.ok (.val (.tuple [.str ("setting" : Str), encB r])))
theorem f_ask_b {n : Nat} {P : List Say} {s : Say} (hn : n ≤ 100) (lP : P.length ≤ 1000) (hP : PileOk n P) (hs : SayOk n s) : AskIs n P s (f_m_ask [bkD n (P.map sayE), sayE s]) := by
  have hy := f_why_ok (n := n) hn lP hP hs
  obtain ⟨o, eo⟩ : ∃ o, o = f_why [.int (n : Int), encP P, sayE s] := ⟨_, rfl⟩
  rw [← eo] at hy
  cases hy with
  | ring w W =>
    have lN : f_least [.int (n : Int), encP P] = .ok (.val .none) := by
      rcases f_least_ok (n := n) hn lP hP with ⟨r, F, e⟩ | ⟨_, e⟩
      · obtain ⟨k, k1, k2, r1, r2⟩ := W.both
        exact (ring_no hP F.good (W.ok k k1) r1 r2).elim
      · exact e
    have e : f_m_ask [bkD n (P.map sayE), sayE s] = .ok (.val (.tuple [.str ("ring" : Str), encI w])) := by
      simp [f_m_ask, fnE, envOf, g_m_ask, ← eo]
    rw [e]
    exact .ring w W lN
  | road w a b no W len ok ha hb =>
    rcases f_least_ok (n := n) hn lP hP with ⟨r, F, er⟩ | ⟨S, _⟩
    · have e : f_m_ask [bkD n (P.map sayE), sayE s] = .ok (.val (.tuple [.str ("road" : Str), encI w])) := by
        simp [f_m_ask, fnE, envOf, g_m_ask, ← eo]
      rw [e]
      exact .road w a b W len ok ha hb r er
    · obtain ⟨k, k1, k2, r⟩ := S.ring
      exact (no k k1 k2 r).elim
  | none no h1 h2 h3 =>
    rcases f_against_ok (n := n) hn lP hP hs with ⟨r, F, er⟩ | ⟨S, _⟩
    · have e : f_m_ask [bkD n (P.map sayE), sayE s] = .ok (.val (.tuple [.str ("setting" : Str), encB r])) := by
        simp [f_m_ask, fnE, envOf, g_m_ask, ← eo, er]
      rw [e]
      exact .setting r F
    · rcases S with T | ⟨k, k1, k2, r⟩
      · rcases two_road T with q | q | q
        · rw [Int.neg_neg] at q; exact (h2 q).elim
        · rw [Int.neg_neg] at q; exact (h1 q).elim
        · rw [Int.neg_neg] at q; exact (h3 q).elim
      · exact (no k k1 k2 r).elim
theorem eqS (a b : Str) (h1 : SeqAt.shaped (.str a) = true) (h2 : SeqAt.shaped (.str b) = true) : eqP (.str a) (.str b) = .ok (PyData.eqv (.str a) (.str b)) := cif_pos ⟨h1, h2⟩
theorem eq_ss1 : eqP (.str ("ring" : Str)) (.str ("setting" : Str)) = .ok false := by
  rw [eqS _ _ (by decide +kernel) (by decide +kernel), show PyData.eqv (.str ("ring" : Str)) (.str ("setting" : Str)) = false by decide +kernel]
theorem eq_ss2 : eqP (.str ("road" : Str)) (.str ("setting" : Str)) = .ok false := by
  rw [eqS _ _ (by decide +kernel) (by decide +kernel), show PyData.eqv (.str ("road" : Str)) (.str ("setting" : Str)) = false by decide +kernel]
theorem eq_ss3 : eqP (.str ("setting" : Str)) (.str ("setting" : Str)) = .ok true := by
  rw [eqS _ _ (by decide +kernel) (by decide +kernel), show PyData.eqv (.str ("setting" : Str)) (.str ("setting" : Str)) = true by decide +kernel]
theorem eq_ss4 : eqP (.str ("road" : Str)) (.str ("ring" : Str)) = .ok false := by
  rw [eqS _ _ (by decide +kernel) (by decide +kernel), show PyData.eqv (.str ("road" : Str)) (.str ("ring" : Str)) = false by decide +kernel]
theorem eq_ss5 : eqP (.str ("ring" : Str)) (.str ("ring" : Str)) = .ok true := by
  rw [eqS _ _ (by decide +kernel) (by decide +kernel), show PyData.eqv (.str ("ring" : Str)) (.str ("ring" : Str)) = true by decide +kernel]
theorem ne_ring : neP (.str ("ring" : Str)) (.str ("ring" : Str)) = .ok false := by
  have h : neP (.str ("ring" : Str)) (.str ("ring" : Str)) = .ok (!PyData.eqv (.str ("ring" : Str)) (.str ("ring" : Str))) := cif_pos ⟨by decide +kernel, by decide +kernel⟩
  rw [h, show PyData.eqv (.str ("ring" : Str)) (.str ("ring" : Str)) = true by decide +kernel]
  rfl
theorem ne_road : neP (.str ("road" : Str)) (.str ("road" : Str)) = .ok false := by
  have h : neP (.str ("road" : Str)) (.str ("road" : Str)) = .ok (!PyData.eqv (.str ("road" : Str)) (.str ("road" : Str))) := cif_pos ⟨by decide +kernel, by decide +kernel⟩
  rw [h, show PyData.eqv (.str ("road" : Str)) (.str ("road" : Str)) = true by decide +kernel]
  rfl
theorem in_T2 (x a b : Int) : inP false (.int x) (.tuple [.int a, .int b]) = .ok (decide (x = a) || decide (x = b)) := by
  have h : inP false (.int x) (.tuple [.int a, .int b]) = .ok ([PyData.int a, .int b].any fun z => PyData.eqv z (.int x)) := cif_pos ⟨rfl, rfl⟩
  rw [h]
  simp [eq_comm]
theorem answers_ok {n : Nat} {P : List Say} {s : Say} {d : PD} (hn : n ≤ 100) (lP : P.length ≤ 1000) (hP : PileOk n P) (hs : SayOk n s) (h : AskIs n P s (.ok (.val d))) : f__law_answers [bkD n (P.map sayE), encP P, sayE s, d] = .ok (.val (.bool true)) := by
  have ix0 : ofO id (atI [PyData.str ("road" : Str), .str ("ring" : Str)] 0) = .ok (.str ("road" : Str)) := rfl
  have ix1 : ofO id (atI [PyData.str ("road" : Str), .str ("ring" : Str)] 1) = .ok (.str ("ring" : Str)) := rfl
  cases h with
  | ring w W no =>
    have r := f_isring W
    simp [f__law_answers, fnE, envOf, g__law_answers, eq_ss1, f_set_b, no, intP, ix1, ne_ring, eq_ss5, r]
  | road w a b W len ok ha hb r0 e =>
    have r := f_isroad W.road (W.road.oks hP W.head ok) (by omega)
    have a0 := at_head W.head
    have a1 := at_last W.road.ne
    rw [W.last] at a1
    have c1 : -a = s.1 ∨ -a = s.2 := by omega
    simp [f__law_answers, fnE, envOf, g__law_answers, eq_ss2, f_set_b, e, intP, ix0, ne_road, eq_ss4, r, a0, a1, in_T2, c1, hb]
  | setting r F =>
    have w1 := F.wish (-s.1) (by simp)
    have w2 := F.wish (-s.2) (by simp)
    rw [litT_neg hs.1] at w1
    rw [litT_neg hs.2] at w2
    have off : sayT r s = false := by
      unfold sayT
      cases e1 : litT r s.1 <;> cases e2 : litT r s.2 <;> simp_all
    have s1 := f_isset F.len
    have t1 := f_alltrue (bs := r) (p := P) (by rw [F.len]; exact hP)
    have t2 := f_true (bs := r) (s := s) (by rw [F.len]; exact hs)
    have fi := f_first hn lP hP (S := [-s.1, -s.2]) (fun y hy => by
      simp at hy
      rcases hy with rfl | rfl
      · exact litOk_neg hs.1
      · exact litOk_neg hs.2) (by simp) F
    simp only [encI, List.map_cons, List.map_nil] at fi
    simp [f__law_answers, fnE, envOf, g__law_answers, eq_ss3, s1, t1, t2, F.good, off, fi]
end
end Px
namespace Px
open PySem L2
noncomputable section
theorem all_tup (P : List Say) : (P.map sayE).all tupI = true := by
  rw [List.all_map, List.all_eq_true]
  intro s _
  rfl
theorem asked_of {n : Nat} {P : List Say} {s : Say} {z : Str} {c : PD} {cs : List PD} (fl : flatP c = true) (e : f_m_ask [bkD n (P.map sayE), sayE s] = .ok (.val (.tuple [.str z, .list (c :: cs)]))) (a : f__law_answers [bkD n (P.map sayE), encP P, sayE s, .tuple [.str z, .list (c :: cs)]] = .ok (.val (.bool true))) :
    f__law_asked [bkD n (P.map sayE), encP P, sayE s] = .ok (.val (.bool true)) := by
  show cif _ (askedG f_m_ask f__law_answers (bkD n (P.map sayE)) (encP P) (sayE s)) .bad = _
  rw [cif_pos ⟨all_tup P, all_tup P⟩]
  unfold askedG
  rw [e]
  exact cif_pos ⟨fl, a⟩
theorem asked_true {n : Nat} {P : List Say} {s : Say} (n1 : 1 ≤ n) (hn : n ≤ 100) (lP : P.length ≤ 1000) (hP : PileOk n P) (hs : SayOk n s) : f__law_asked [bkD n (P.map sayE), encP P, sayE s] = .ok (.val (.bool true)) := by
  have A := f_ask_b hn lP hP hs
  obtain ⟨o, eo⟩ : ∃ o, o = f_m_ask [bkD n (P.map sayE), sayE s] := ⟨_, rfl⟩
  rw [← eo] at A
  have ans : ∀ {d : PD}, AskIs n P s (.ok (.val d)) → f__law_answers [bkD n (P.map sayE), encP P, sayE s, d] = .ok (.val (.bool true)) := fun h => answers_ok hn lP hP hs h
  cases A with
  | ring w W no =>
    have an := ans (.ring w W no)
    cases w with
    | nil => exact absurd rfl W.road.ne
    | cons a w => exact asked_of (z := "ring") (c := .int a) (cs := w.map PyData.int) rfl eo.symm an
  | road w a b W len ok ha hb r e =>
    have an := ans (.road w a b W len ok ha hb r e)
    cases w with
    | nil => exact absurd rfl W.road.ne
    | cons x w => exact asked_of (z := "road") (c := .int x) (cs := w.map PyData.int) rfl eo.symm an
  | setting r F =>
    have an := ans (.setting r F)
    have l := F.len
    cases r with
    | nil =>
      simp at l
      omega
    | cons b r => exact asked_of (z := "setting") (c := .bool b) (cs := r.map PyData.bool) rfl eo.symm an
theorem add_lit {n : Int} {rows : List PD} {b : Option D} {i : Int} : l_m_add_1 [some (.val (bkD n rows)), b, some (.val (.int i))] = if i = 0 ∨ n < (i.natAbs : Int) then .exc ("BadSay" : Str) else .next [some (.val (bkD n rows)), b, some (.val (.int i))] := by
  by_cases h : i = 0
  · subst h
    simp [l_m_add_1]
  · by_cases h2 : n < (i.natAbs : Int)
    · simp [l_m_add_1, h, h2]
    · simp [l_m_add_1, h, h2]
theorem add_ill {n : Int} {rows : List PD} {i j : Int} (h : (i = 0 ∨ n < (i.natAbs : Int)) ∨ (j = 0 ∨ n < (j.natAbs : Int))) : f_m_add [bkD n rows, .tuple [.int i, .int j]] = .exc ("BadSay" : Str) := by
  by_cases h1 : i = 0 ∨ n < (i.natAbs : Int)
  · simp [f_m_add, fnE, envOf, g_m_add, forE_c, forE_n, add_lit, h1]
  · have h2 : j = 0 ∨ n < (j.natAbs : Int) := by
      rcases h with h | h
      · exact (h1 h).elim
      · exact h
    simp [f_m_add, fnE, envOf, g_m_add, forE_c, forE_n, add_lit, h1, h2]
theorem tryS_e {g : Env → Out} {c c2 : Str} {r : PD} {L : Env} (e : g L = .exc c) (h : c = c2) : tryS g c2 r L = .ret (.val r) := by
  unfold tryS
  rw [e]
  exact cif_pos h
theorem put_ill {n : Int} {rows : List PD} {i j : Int} (h : (i = 0 ∨ n < (i.natAbs : Int)) ∨ (j = 0 ∨ n < (j.natAbs : Int))) : f__law_put_ill [bkD n rows, .tuple [.int i, .int j]] = .ok (.val (.bool true)) := by
  simp only [f__law_put_ill, fnE, envOf, List.length_cons, List.length_nil, if_pos, List.map_cons, List.map_nil]
  unfold g__law_put_ill
  rw [seq_d, tryS_e (c := "BadSay") (by simp [add_ill h]) rfl]
  rfl
theorem taken_ill (n : Int) : f__law_taken_ill [bkD n []] = .ok (.val (.bool true)) := by
  have b : f_m_back [bkD n []] = .exc ("EmptyBook" : Str) := by
    simp [f_m_back, fnE, envOf, g_m_back]
  simp only [f__law_taken_ill, fnE, envOf, List.length_cons, List.length_nil, if_pos, List.map_cons, List.map_nil]
  unfold g__law_taken_ill
  rw [seq_d, tryS_e (c := "EmptyBook") (by simp [b]) rfl]
  rfl
theorem clr_ok {i : Nat} {f1 f2 : Env → R D} {L : Env} {d1 d2 : D} (e1 : f1 L = .ok d1) (e2 : f2 L = .ok d2) (c1 : clrOk d1) (c2 : clrOk d2) (h : i < L.length) : clr2 i f1 f2 L = .next (setE L i none) := by
  unfold clr2
  rw [e1]
  show (f2 L).out _ = _
  rw [e2]
  exact cif_pos ⟨c1, c2, h⟩
theorem deed_looks {n : Nat} {P : List Say} {c : Int} (n1 : 1 ≤ n) (hn : n ≤ 100) (lP : P.length ≤ 1000) (hP : PileOk n P) (h3 : ¬ c % 8 < 3) (h4 : c % 8 = 4 → P = []) : f__law_deed [bkD n (P.map sayE), encP P, .int c, .int (n : Int)] = .ok (.val (.bool true)) := by
  obtain ⟨s, es, sok⟩ : ∃ s : Say, s = (litBy (c / 8 % (2 * (n : Int))), litBy (c / (16 * (n : Int)) % (2 * (n : Int)))) ∧ SayOk n s := ⟨_, rfl, lit_mod _ n1, lit_mod _ n1⟩
  have m16 : mulP (.int 16) (.int (n : Int)) = .ok (.int (16 * (n : Int))) := mul_ii (.inl (by decide))
  simp only [f__law_deed, fnE, envOf, List.length_cons, List.length_nil, if_pos, List.map_cons, List.map_nil]
  unfold g__law_deed
  refine seq_to (L' := [some (.val (bkD n (P.map sayE))), some (.val (encP P)), some (.val (.int c)), some (.val (.int (n : Int))), some (.val (sayE s)), none, none, none, none]) (by
    rw [es]
    simp [mul2, m16, mod_n (show 0 < 2 * (n : Int) by omega), div_n (show (0 : Int) < 8 by decide) (by decide), div_n (show 0 < 16 * (n : Int) by omega) (show 16 * (n : Int) < 1073741824 by omega), f_litby]) ?_
  refine seq_to (L' := [some (.val (bkD n (P.map sayE))), some (.val (encP P)), some (.val (.int c)), some (.val (.int (n : Int))), some (.val (sayE s)), some (.val (.int (c % 8))), none, none, none]) (by simp [mod_n]) ?_
  refine seq_to (L' := [some (.val (bkD n (P.map sayE))), some (.val (encP P)), some (.val (.int c)), some (.val (.int (n : Int))), some (.val (sayE s)), some (.val (.int (c % 8))), none, none, none]) (by simp [h3]) ?_
  by_cases c3 : c % 8 = 3
  · -- an ill one
    obtain ⟨b, hb, eb⟩ : ∃ b : Int, (b = 0 ∨ (n : Int) < (b.natAbs : Int)) ∧ ofO id (atI [PyData.int 0, .int ((n : Int) + 1 + c / 64 % 1000), .int (-(n : Int) - 1)] (c / 8 % 3)) = .ok (.int b) := by
      have z := Int.emod_nonneg (c / 64) (show (1000 : Int) ≠ 0 by decide)
      obtain ⟨k, ek, hk⟩ := mod_at (c / 8) (n := 3) (by decide)
      have ek : c / 8 % 3 = (k : Int) := ek
      rw [ek]
      match k, hk with
      | 0, _ => exact ⟨0, .inl rfl, rfl⟩
      | 1, _ => exact ⟨(n : Int) + 1 + c / 64 % 1000, .inr (by omega), rfl⟩
      | 2, _ => exact ⟨-(n : Int) - 1, .inr (by omega), rfl⟩
    obtain ⟨i, j, hi, ei⟩ : ∃ i j : Int, ((i = 0 ∨ (n : Int) < (i.natAbs : Int)) ∨ (j = 0 ∨ (n : Int) < (j.natAbs : Int))) ∧ ofO id (atI [PyData.tuple [.int s.1, .int b], .tuple [.int b, .int s.1]] (c / 24 % 2)) = .ok (.tuple [.int i, .int j]) := by
      obtain ⟨k, ek, hk⟩ := mod_at (c / 24) (n := 2) (by decide)
      have ek : c / 24 % 2 = (k : Int) := ek
      rw [ek]
      match k, hk with
      | 0, _ => exact ⟨s.1, b, .inr hb, rfl⟩
      | 1, _ => exact ⟨b, s.1, .inl hb, rfl⟩
    have pi := put_ill (rows := P.map sayE) hi
    rw [seq_d]
    simp [c3, mod_n, div_n, eb, ei, pi]
  · refine seq_to (L' := [some (.val (bkD n (P.map sayE))), some (.val (encP P)), some (.val (.int c)), some (.val (.int (n : Int))), some (.val (sayE s)), some (.val (.int (c % 8))), none, none, none]) (by simp [c3]) ?_
    by_cases c4 : c % 8 = 4
    · have eP := h4 c4
      subst eP
      have ti := taken_ill (n : Int)
      rw [seq_d]
      simp [c4, ti]
    · refine seq_to (L' := [some (.val (bkD n (P.map sayE))), some (.val (encP P)), some (.val (.int c)), some (.val (.int (n : Int))), some (.val (sayE s)), some (.val (.int (c % 8))), none, none, none]) (by simp [c4]) ?_
      by_cases c5 : c % 8 = 5
      · have ft := f_told hn lP hP
        obtain ⟨d1, e1, k1⟩ : ∃ d1, f_least [.int (n : Int), encP P] = .ok d1 ∧ clrOk d1 := by
          rcases f_least_ok (n := n) hn lP hP with ⟨r, _, e⟩ | ⟨_, e⟩
          · exact ⟨_, e, trivial⟩
          · exact ⟨_, e, trivial⟩
        obtain ⟨d2, e2, k2⟩ : ∃ d2, f_clash [.int (n : Int), encP P] = .ok d2 ∧ clrOk d2 := by
          rcases f_clash_ok (n := n) hn lP hP with ⟨r, _, e⟩ | ⟨_, e⟩
          · exact ⟨_, e, trivial⟩
          · exact ⟨_, e, trivial⟩
        have cl := clr_ok (i := 8) (f1 := callM0 f_m_setting (varE 0)) (f2 := callM0 f_m_ring (varE 0)) (L := [some (.val (bkD n (P.map sayE))), some (.val (encP P)), some (.val (.int c)), some (.val (.int (n : Int))), some (.val (sayE s)), some (.val (.int (c % 8))), none, none, none]) (d1 := d1) (d2 := d2) (by simp [f_set_b, e1]) (by simp [f_ring_b, e2]) k1 k2 (by simp)
        rw [c5] at cl
        rw [seq_d]
        simp [c5, ft, cl]
      · refine seq_to (L' := [some (.val (bkD n (P.map sayE))), some (.val (encP P)), some (.val (.int c)), some (.val (.int (n : Int))), some (.val (sayE s)), some (.val (.int (c % 8))), none, none, none]) (by simp [c5]) ?_
        have fa := asked_true n1 hn lP hP sok
        simp [fa]
theorem first_nil {n : Nat} {r : List Bool} (F : First n [] [] r) : r = List.replicate n false := by
  have all : ∀ i, i < n → r.getD i false = false := fun i => by
    induction i using Nat.strongRecOn with
    | ind i ih =>
      intro hi
      refine F.ahead (w := []) (fun s hs => by cases hs) (fun y hy => by cases hy) rfl (fun y hy => by cases hy) hi (fun j hj => ?_) (by simp)
      rw [ih j hj (by omega)]
      simp
  refine List.ext_getElem (by rw [F.len, List.length_replicate]) fun i h1 h2 => ?_
  have e := all i (by rw [← F.len]; exact h1)
  rw [List.getD_eq_getElem?_getD, List.getElem?_eq_getElem h1] at e
  rw [List.getElem_replicate]
  exact e
theorem rc_nil {a b : Int} (h : Rc [] a b) : a = b := by
  induction h with
  | refl => rfl
  | tail _ st _ =>
    obtain ⟨s, hs, _⟩ := st
    cases hs
theorem least_nil {n : Nat} (hn : n ≤ 100) : f_least [.int (n : Int), .list []] = .ok (.own ((List.replicate n false).map PyData.bool)) := by
  rcases f_least_ok (n := n) (p := []) hn (by simp) (fun s hs => by cases hs) with ⟨r, F, e⟩ | ⟨S, _⟩
  · rw [← first_nil F]
    exact e
  · obtain ⟨k, k1, k2, r, _⟩ := S.ring
    have := rc_nil r
    omega
theorem clash_nil {n : Nat} (hn : n ≤ 100) : f_clash [.int (n : Int), .list []] = .ok (.val .none) := by
  rcases f_clash_ok (n := n) (p := []) hn (by simp) (fun s hs => by cases hs) with ⟨w, W, _⟩ | ⟨_, e⟩
  · obtain ⟨k, k1, _, r, _⟩ := W.both
    have := rc_nil r
    have := (W.ok k k1).1
    omega
  · exact e
end
end Px
namespace Px
open PySem L2
/-- the script; the other Book; the Book and the pile, alike -/
structure St12 (K : PySem.W.Frag) (H : Hp) (ns : List Int) (n : Nat) (a p q r h : Addr) (xs ys : List V) (rows : List Say) : Prop where
  g : ∃ G, Same G H ∧ G h = none ∧ G q = none ∧ Dq K G (.ref a) (scr ns) ∧ Dq K G (.ref r) (bkD n [])
  qh : q ≠ h
  bk : BkAt K H p h n xs
  pl : H q = some (.lst ys)
  ax : DqAll K H xs (rows.map sayE)
  ay : DqAll K H ys (rows.map sayE)
  ok : PileOk n rows
section
variable {K : PySem.W.Frag} {mg : Str → Option Value} {E : XK} {H H' : Hp} {ns : List Int} {n : Nat} {a p q r h : Addr} {xs ys xs' ys' : List V} {rows rows' : List Say}
theorem St12.mono (s : St12 K H ns n a p q r h xs ys rows) (e : Same H H') : St12 K H' ns n a p q r h xs ys rows := by
  obtain ⟨⟨G, g1, g2, g3, g4, g5⟩, qh, bk, pl, ax, ay, ok⟩ := s
  exact ⟨⟨G, g1.trans e, g2, g3, g4, g5⟩, qh, bk.mono e, e _ _ pl, dpAll_mono e _ _ ax, dpAll_mono e _ _ ay, ok⟩
theorem St12.tups (s : St12 K H ns n a p q r h xs ys rows) (k : ∀ b o, b ≠ h → b ≠ q → H b = some o → H' b = some o) : ∀ b zs, H b = some (.tup zs) → H' b = some (.tup zs) := fun b zs e => k b _ (fun z => by
  subst z
  have := s.bk.held
  rw [e] at this
  cases this) (fun z => by
  subst z
  have := s.pl
  rw [e] at this
  cases this) e
theorem St12.put (s : St12 K H ns n a p q r h xs ys rows) (e1 : H' h = some (.lst xs')) (e2 : H' q = some (.lst ys')) (k : ∀ b o, b ≠ h → b ≠ q → H b = some o → H' b = some o) (ax : DqAll K H' xs' (rows'.map sayE)) (ay : DqAll K H' ys' (rows'.map sayE)) (ok : PileOk n rows') :
    St12 K H' ns n a p q r h xs' ys' rows' := by
  obtain ⟨⟨G, g1, g2, g3, g4, g5⟩, qh, bk, pl, _, _, _⟩ := s
  refine ⟨⟨G, fun b o w => k b o (ne_of_none w g2) (ne_of_none w g3) (g1 _ _ w), g2, g3, g4, g5⟩, qh, ?_, e2, ax, ay, ok⟩
  obtain ⟨⟨C, dx, c, e⟩, l⟩ := bk
  exact ⟨⟨C, dx, c, k _ _ (fun z => by subst z; rw [e] at l; cases l) (fun z => by subst z; rw [e] at pl; cases pl) e⟩, e1⟩
theorem St12.allV (s : St12 K H ns n a p q r h xs ys rows) {x5 x6 : Option V} {o5 o6 : Option D} (h5 : ∀ d, o5 = some d → ∃ pd x, d = .val pd ∧ x5 = some x ∧ Dq K H x pd) (h6 : ∀ d, o6 = some d → ∃ pd x, d = .val pd ∧ x6 = some x ∧ Dq K H x pd) :
    AllV K H [some (.ref a), some (.int n), some (.ref p), some (.ref r), some (.ref q), x5, x6] [some (.val (scr ns)), some (.val (.int n)), some (.val (bkD n (rows.map sayE))), some (.val (bkD n [])), some (.val (encP rows)), o5, o6] := by
  obtain ⟨⟨G, g1, g2, g3, g4, g5⟩, qh, bk, pl, ax, ay, ok⟩ := s
  exact .v (dp_mono g1 _ _ g4) (.v (.int _) (.v (bk.dq ax) (.v (dp_mono g1 _ _ g5) (.v (.lst pl ay) (.cons h5 (.cons h6 allV_nil))))))
theorem rep_flat {α : Type} {x : α} : ∀ n : Nat, (List.replicate n [x]).flatten = List.replicate n x
  | 0 => rfl
  | n + 1 => by
    rw [List.replicate_succ, List.flatten_cons, rep_flat n, List.replicate_succ]
    rfl
theorem deed_call (st : St12 K H ns n a p q r h xs ys rows) (few : rows.length ≤ 20) (n1 : 1 ≤ n) (n2 : n ≤ 100) (c : Int) {Q : VK} (k : ∀ H' xs' ys' rows', rows'.length ≤ rows.length + 1 → St12 K H' ns n a p q r h xs' ys' rows' → Q (.bl true) H') :
    spF K mg 4 f__law_deed [.ref p, .ref q, .int c, .int n] H Q E ∨ spDeed K [.ref p, .ref q, .int c, .int n] H Q E := by
  by_cases c3 : c % 8 < 3
  · refine .inr ⟨p, q, h, n, c, xs, ys, rows, rfl, st.bk, st.pl, st.qh, st.ax, st.ay, n1, n2, by omega, .inl ⟨c3, fun s u1 u2 H' sok e1 e2 d1 d2 keep => ?_⟩⟩
    have t := st.tups keep
    refine k H' (xs ++ [u1]) (ys ++ [u2]) (rows ++ [s]) (by simp) (st.put e1 e2 keep ?_ ?_ ?_)
    · rw [List.map_append]
      exact dpAll_app (dq_pairs t st.ax tup_say) (.cons d1 .nil)
    · rw [List.map_append]
      exact dpAll_app (dq_pairs t st.ay tup_say) (.cons d2 .nil)
    · intro z hz
      rcases List.mem_append.mp hz with hz | hz
      · exact st.ok z hz
      · rw [List.mem_singleton] at hz
        subst hz
        exact sok
  · by_cases c4 : c % 8 = 4 ∧ rows ≠ []
    · obtain ⟨c4, ne⟩ := c4
      have split : ∀ {α : Type} {l : List α}, l ≠ [] → ∃ l' b, l = l' ++ [b] := fun {α l} hne => by
        rcases List.eq_nil_or_concat l with e | ⟨l', b, e⟩
        · exact absurd e hne
        · exact ⟨l', b, by rw [e, List.concat_eq_append]⟩
      obtain ⟨rows', s, er⟩ := split ne
      have lx := dpAll_len st.ax
      have ly := dpAll_len st.ay
      rw [List.length_map] at lx ly
      have pos : 0 < rows.length := List.length_pos_iff.mpr ne
      obtain ⟨xs', x, ex⟩ := split (l := xs) (fun z => by rw [z] at lx; simp at lx; omega)
      obtain ⟨ys', y, ey⟩ := split (l := ys) (fun z => by rw [z] at ly; simp at ly; omega)
      refine .inr ⟨p, q, h, n, c, xs, ys, rows, rfl, st.bk, st.pl, st.qh, st.ax, st.ay, n1, n2, by omega, .inr ⟨c4, rows', s, xs', ys', x, y, er, ex, ey, fun H' e1 e2 keep => ?_⟩⟩
      have t := st.tups keep
      have ax := st.ax
      have ay := st.ay
      rw [er, ex, List.map_append] at ax
      rw [er, ey, List.map_append] at ay
      refine k H' xs' ys' rows' (by rw [er]; simp; omega) (st.put e1 e2 keep (dq_pairs t (dpAll_last ax).1 tup_say) (dq_pairs t (dpAll_last ay).1 tup_say) fun z hz => st.ok z ?_)
      rw [er]
      exact List.mem_append_left _ hz
    · refine .inl ⟨noHp, H, [bkD n (rows.map sayE), encP rows, .int c, .int n], same_none, Same.refl _, (fun _ _ e => by cases e), .cons (st.bk.dq st.ax) (.cons (.lst st.pl st.ay) (.cons (.int _) (.cons (.int _) .nil))), rfl, ?_⟩
      rw [deed_looks n1 n2 (by omega) st.ok c3 (fun e => by
        by_cases z : rows = []
        · exact z
        · exact absurd ⟨e, z⟩ c4)]
      intro v G' H' s1 _ s2 _ hv
      cases hv
      exact k H' xs ys rows (Nat.le_succ _) (st.mono (s1.trans s2))
end
section
variable {P : Program} {w : World} {K : PySem.W.Frag} {mg : Str → Option Value} {base : Heap}
theorem k_law {fa : Addr} {fd : FuncData} (Fn : Fun K "law" "law" s_law fa fd) (Bl : Blt mg) (Tb : BkTxt K) (Tm : BkMk K mg) (h__law_cell_at : Fct P w K mg base "_law_cell_at" ["script", "k"] 1 f__law_cell_at) (h__law_whole : Fct P w K mg base "_law_whole" ["found"] 1 f__law_whole)
    (h__law_told : Fct P w K mg base "_law_told" ["book", "pile"] 6 f__law_told) (h__law_deed : Fct P w K mg base "_law_deed" ["book", "pile", "cell", "many"] 8 f__law_deed) (h_m_says : FctM P w K mg base "says" ["self"] 1 f_m_says) (h_m_setting : FctM P w K mg base "setting" ["self"] 5 f_m_setting) (h_m_ring : FctM P w K mg base "ring" ["self"] 4 f_m_ring)
    (a_init : MetOk P w K mg base "__init__" ["self", "many"] 1 (spInit K)) (a_deed : DeedOk P w K mg base 8) : FnOk P w K mg base (L2.CX P w) 9 fa fd ["script"] (spLaw K) := by
  have T : Two P w K mg base "_law_deed" ["book", "pile", "cell", "many"] 8 (spF K mg 4 f__law_deed) (spDeed K) := by
    obtain ⟨f1, d1, m1, k1, b1, F1⟩ := h__law_deed.ex
    obtain ⟨f2, d2, m2, k2, b2, F2⟩ := a_deed.ex
    rw [m1] at m2
    cases m2
    exact ⟨f1, d1, d2, m1, k1, b1, b2, F1, F2⟩
  refine Fn.okX sc_law (fun vs H Q E h => ?_) (fun cdv A outer s H vs Q E hr h => ?_)
  · obtain ⟨_, _, rfl, _⟩ := h
    rfl
  obtain ⟨a, ns, rfl, hS, _, done⟩ := h
  have tk : Takes (cxOf (L2.CX P w) P w K mg base N_law "law" (defScope s_law) fa cdv A outer s H E) (fun cls d _ H => E cls d H) := takes_of rfl rfl rfl rfl
  have C : Ctx (cxOf (L2.CX P w) P w K mg base N_law "law" (defScope s_law) fa cdv A outer s H E) E 8 := ⟨hr, passes_call tk fun _ _ _ _ h => h, rfl, passes_of rfl⟩
  have REST : ∃ t, PSs (cxOf (L2.CX P w) P w K mg base N_law "law" (defScope s_law) fa cdv A outer s H E) ((defBody s_law).drop 2) t ∧ ∀ (n : Nat) H1, 1 ≤ n → n ≤ 20 → Same H H1 → t { nx := fun _ H' => Q .non H', rt := Q } [some (.ref a), some (.int n), none, none, none, none, none] H1 := by
    refine ⟨_, pss_cons (ps_set (i := 2) sc_law.nd rfl (Or.inl rfl) (pe_book (i := 1) C Tm a_init (by decide)))
      (pss_cons (ps_set (i := 3) sc_law.nd rfl (Or.inl rfl) (pe_book (i := 1) C Tm a_init (by decide)))
      (pss_cons (ps_set (i := 4) sc_law.nd rfl (Or.inl rfl) (pe_lst pa_nil))
      (pss_cons (ps_for C.own C.calm (pi_range1 rfl Bl.range (xa_cons (E := E) (xe_op op_mod r_mod (xb_of (xe_callS C h__law_cell_at (by decide) f__law_cell_at_len (xab_cons (xb_var 0) (xab_cons (xb_of (xe_int)) xab_nil)))) (xb_of (xe_int))) xa_nil) rfl) (pg_name (i := 5) sc_law.nd rfl (by first | exact .inl rfl | exact .inr rfl))
        (pss_cons (ps_if (pt_not (pt_val (pe_two C T (by decide) (pa_cons (pv 2) (pa_cons (pv 4) (pa_cons (xe_callS (E := E) C h__law_cell_at (by decide) f__law_cell_at_len (xab_cons (xb_var 0) (xab_cons (xb_of (xe_op op_addX r_add (xb_of (xe_int)) (xb_var 5))) xab_nil))) (pa_cons (pv 1) pa_nil))))) (by intro _; rfl))) (pss_one (ps_ret pe_bl)) pss_nil)
        (pss_cons (ps_set (i := 6) sc_law.nd rfl (Or.inl rfl) (xf_callM0 (E := E) C h_m_says (by decide) f_m_says_len (xe_var 2)))
        (pss_cons (ps_if (xt_w (xw_or (E := E) (xt_not (xt_val (xe_isi (T := "list") (by rfl) Bl.isinstance (by decide +kernel) (by rfl) Bl.list (by decide +kernel) (xb_var 6)))) (xw_or (xt_cmp (op_neD C.room.units) r_ne (xb_var 6) (xb_var 4) (nomark _)) (xw_or1 (xt_cmp (op_neD C.room.units) r_ne (xb_of (xe_fz (xf_callM0 C h_m_says (by decide) f_m_says_len (xe_var 3)))) (xb_of (xe_fz (xf_lst (xa_nil)))) (nomark _)))))) (pss_one (ps_ret pe_bl)) pss_nil)
        (pss_one (ps_expr (pe_bm PySem.F.plainAttrs_list PySem.F.slot_list_append PySem.F.type_list_append mt_append (pv 6) (pa_cons (xe_tup (E := E) (xa_cons (xe_int) (xa_cons (xe_int) xa_nil))) pa_nil))))))))
      (pss_cons (ps_if (xt_w (xw_or (E := E) (xt_not (xt_val (xe_callS C h__law_whole (by decide) f__law_whole_len (xab_cons (xb_of (xe_many Tb (xb_var 2))) xab_nil)))) (xw_or1 (xt_cmp (op_neD C.room.units) r_ne (xb_of (xe_many Tb (xb_var 2))) (xb_var 1) (nomark _))))) (pss_one (ps_ret pe_bl)) pss_nil)
      (pss_one (ps_ret (xe_and (E := E) (xe_fz (xf_callF C h__law_told (by decide) f__law_told_len (xa_cons (xe_var 2) (xa_cons (xe_var 4) xa_nil)))) (xe_and (xe_cmp (op_eqD C.room.units) r_eq (xb_of (xe_fz (xf_callM0 C h_m_setting (by decide) f_m_setting_len (xe_var 3)))) (xb_of (xe_fz (xf_op op_rep r_rep (xb_of (xe_fz (xf_lst (xa_cons (xe_bl) xa_nil)))) (xb_var 1)))) (nomark _)) (xe_one (xe_cmp op_isN r_isN (xb_of (xe_fz (xf_callM0 C h_m_ring (by decide) f_m_ring_len (xe_var 3)))) (xb_of (xe_non)) (nomark _))))))))))), fun n H1 n1 n2 s1 => ?_⟩
    -- the Books, the pile
    refine ⟨n, rfl, fun p h H2 np nh s2 bk => ?_⟩
    refine ⟨n, rfl, fun r h2 H3 nr nh2 s3 bk2 => ?_⟩
    refine ⟨by decide, fun q nq => ?_⟩
    have hh3 := s3 _ _ bk.held
    have h0 : H h = none := s1.free nh
    have st : St12 K (upd H3 q (.lst [])) ns n a p q r h [] [] [] := by
      refine ⟨⟨fun b => if b = h then none else H3 b, fun b o e => ?_, if_pos rfl, ?_, ?_, ?_⟩, ?_, (bk.mono s3).mono (same_new nq), upd_same, .nil, .nil, fun z hz => by cases hz⟩
      · dsimp only at e
        split at e
        · cases e
        · rw [upd_ne (ne_of_none e nq)]
          exact e
      · dsimp only
        split
        · rfl
        · exact nq
      · refine .scr (sqL_mono (fun b o e => ?_) hS)
        rw [if_neg (ne_of_none e h0)]
        exact s3 _ _ (s2 _ _ (s1 _ _ e))
      · obtain ⟨⟨Cb, dx, hC, e⟩, l⟩ := bk2
        refine .book (C := Cb) (dx := dx) (h := h2) hC (xs := []) ?_ ?_ .nil
        · rw [if_neg (fun z => by subst z; rw [bk.held] at nr; cases nr)]
          exact e
        · rw [if_neg (fun z => by subst z; rw [bk.held] at nh2; cases nh2)]
          exact l
      · intro z
        subst z
        rw [hh3] at nq
        cases nq
    -- the deeds
    obtain ⟨m, em, hm⟩ := mod_nat (cellAt ns 1) (n := 15) (by decide)
    refine ta_val (ds := [.int (m : Int)]) (st.allV no_slot no_slot) (by simp [f_cellI, mod_n, em]) fun vs H5 s5 hvs => ?_
    have evs : vs = [.int (m : Int)] := by
      cases hvs with
      | cons h1 h2 =>
        cases h1
        cases h2
        rfl
    refine ⟨(m : Int), evs, by omega, by omega, for_range (fun i σ H' => ∃ x5 x6 xs ys rows, σ = [some (.ref a), some (.int n), some (.ref p), some (.ref r), some (.ref q), x5, x6] ∧ St12 K H' ns n a p q r h xs ys rows ∧ rows.length ≤ i) ⟨none, none, [], [], [], rfl, st.mono s5, Nat.le_refl _⟩ (fun i σ H' hi ⟨x5, x6, xs, ys, rows, es, st, lr⟩ => ?_) (fun σ H' ⟨x5, x6, xs, ys, rows, es, st, lr⟩ => ?_)⟩
    · subst es
      have hi' : i < 15 := by omega
      have five : ∀ {H' : Hp}, ∀ d, some (D.val (.int (0 + (i : Int)))) = some d → ∃ pd x, d = .val pd ∧ some (V.int (0 + (i : Int))) = some x ∧ Dq K H' x pd := fun {H'} d e => by
        cases e
        exact ⟨_, _, rfl, rfl, .int _⟩
      refine ⟨_, rfl, _, rfl, te_val (d := .int (cellAt ns (2 + (i : Int)).toNat)) (st.allV (x6 := x6) five no_slot) (by simp [f_cellI ns (show 0 ≤ 2 + (i : Int) by omega)]) fun v H6 s6 hv => ?_⟩
      cases hv
      refine ⟨_, rfl, deed_call (st.mono s6) (by omega) n1 (by omega) _ fun H7 xs' ys' rows' lr' st7 => ⟨true, rfl, ite_f rfl ?_⟩⟩
      -- says
      refine te_own (st7.allV (x6 := x6) five no_slot) (by simp [f_says_b] <;> rfl) fun z zs H8 s8 nz hz hzs => ?_
      have st8 := st7.mono s8
      have six : ∀ {H' : Hp}, Same H8 H' → ∀ d, some (D.val (encP rows')) = some d → ∃ pd x, d = .val pd ∧ some (V.ref z) = some x ∧ Dq K H' x pd := fun {H'} s d e => by
        cases e
        exact ⟨_, _, rfl, rfl, dp_mono s _ _ (.lst hz hzs)⟩
      have ne0 : neP (.list []) (.list []) = .ok false := by
        show neP (encP []) (encP []) = _
        rw [ne_P, decide_eq_true rfl]
        rfl
      refine tt_val (b := false) (st8.allV five (six (Same.refl _))) (by simp [f_says_b, ne0]) fun H9 s9 => ite_f rfl ?_
      refine ⟨_, rfl, .inl ⟨rfl, zs, SqL.of (s9 _ _ hz)⟩, te_val (d := .tuple [.int 1, .int 1]) ((st8.mono s9).allV five (six s9)) (by simp) fun v H10 s10 hv => ?_⟩
      refine ⟨z, zs, v, rfl, rfl, s10 _ _ (s9 _ _ hz), ?_, ?_⟩
      · rw [dpAll_len hzs, List.length_map]
        exact Nat.lt_of_le_of_lt (show rows'.length ≤ 20 by omega) (by decide)
      · exact ⟨_, _, xs', ys', rows', rfl, st7.mono (same_mut ((s8.trans s9).trans s10) nz), by omega⟩
    · subst es
      have wh : f__law_whole [.int (n : Int)] = .ok (.val (.bool true)) := by
        simp [f__law_whole, fnE, envOf, g__law_whole]
      refine tt_val (b := false) (st.allV (x5 := x5) (x6 := x6) no_slot no_slot) (by simp [wh]) fun H6 s6 => ite_f rfl ?_
      have st6 := st.mono s6
      have ft := f_told (n := n) (P := rows) (by omega) (by omega) st.ok
      have ln := least_nil (n := n) (by omega)
      have cn := clash_nil (n := n) (by omega)
      have rp : repP (.list [.bool false]) (.int (n : Int)) = .ok (.own ((List.replicate n false).map PyData.bool)) := by
        have e : (List.replicate (n : Int).toNat [PyData.bool false]).flatten = (List.replicate n false).map PyData.bool := by
          rw [Int.toNat_natCast, List.map_replicate]
          exact rep_flat n
        have : repP (.list [.bool false]) (.int (n : Int)) = .ok (.own (List.replicate (n : Int).toNat [PyData.bool false]).flatten) := cif_pos ⟨by omega, by omega, by simp⟩
        rw [this, e]
      have eb : eqP (.list (List.replicate n (PyData.bool false))) (.list (List.replicate n (PyData.bool false))) = .ok true := by
        have q := eq_B (List.replicate n false) (List.replicate n false)
        rw [decide_eq_true rfl] at q
        simp only [encB, List.map_replicate] at q
        exact q
      refine te_val (d := .bool true) (st6.allV (x5 := x5) (x6 := x6) no_slot no_slot) (by simp [ft, f_set_b, f_ring_b, ln, cn, rp, eb]) fun v H7 s7 hv => ?_
      cases hv
      exact done _
  obtain ⟨tR, hR, kR⟩ := REST
  refine ⟨_, pss_cons (ps_set (i := 1) sc_law.nd rfl (Or.inl rfl) (xe_op (E := E) op_addX r_add (xb_of (xe_int)) (xb_of (xe_op op_mod r_mod (xb_of (xe_callS C h__law_cell_at (by decide) f__law_cell_at_len (xab_cons (xb_var 0) (xab_cons (xb_of (xe_int)) xab_nil)))) (xb_of (xe_int))))))
    (pss_cons (ps_if (xt_cmp (E := E) (op_eqD C.room.units) r_eq (xb_of (xe_op op_mod r_mod (xb_of (xe_op op_fdiv r_div (xb_of (xe_callS C h__law_cell_at (by decide) f__law_cell_at_len (xab_cons (xb_var 0) (xab_cons (xb_of (xe_int)) xab_nil)))) (xb_of (xe_int)))) (xb_of (xe_int)))) (xb_of (xe_int)) (nomark _))
      (pss_one (ps_set (i := 1) sc_law.nd rfl (Or.inl rfl) (xe_op (E := E) op_addX r_add (xb_of (xe_int)) (xb_of (xe_op op_mod r_mod (xb_of (xe_op op_fdiv r_div (xb_of (xe_callS C h__law_cell_at (by decide) f__law_cell_at_len (xab_cons (xb_var 0) (xab_cons (xb_of (xe_int)) xab_nil)))) (xb_of (xe_int)))) (xb_of (xe_int)))))))
      pss_nil) hR), ?_⟩
  obtain ⟨i, ei, hi⟩ := mod_nat (cellAt ns 0) (n := 7) (by decide)
  obtain ⟨j, ej, hj⟩ := mod_nat (cellAt ns 0 / 56) (n := 13) (by decide)
  have a0 : AllV K H (L2.start N_law [.ref a]) [some (.val (scr ns)), none, none, none, none, none, none] := .v (.scr hS) (.n (.n (.n (.n (.n (.n allV_nil))))))
  refine te_val (d := .int ((1 + i : Nat) : Int)) a0 (by simp [f_cellI, mod_n, ei]) fun v H1 s1 hv => ?_
  cases hv
  have a1 : AllV K H1 [some (.ref a), some (.int ((1 + i : Nat) : Int)), none, none, none, none, none] [some (.val (scr ns)), none, none, none, none, none, none] := .v (dp_mono s1 _ _ (.scr hS)) (.n (.n (.n (.n (.n (.n allV_nil))))))
  by_cases c1 : cellAt ns 0 / 7 % 8 = 1
  · refine tt_val (b := true) a1 (by simp [f_cellI, mod_n, div_n, c1]) fun H2 s2 => ite_t rfl ?_
    refine te_val (d := .int ((8 + j : Nat) : Int)) (a1.mono s2) (by simp [f_cellI, mod_n, div_n, ej]) fun v H3 s3 hv => ?_
    cases hv
    exact kR (8 + j) H3 (by omega) (by omega) ((s1.trans s2).trans s3)
  · refine tt_val (b := false) a1 (by simp [f_cellI, mod_n, div_n, c1]) fun H2 s2 => ite_f rfl ?_
    exact kR (1 + i) H2 (by omega) (by omega) (s1.trans s2)
end
end Px
namespace Px
open PySem L2
theorem all_k12 {P : Program} {w : World} {K : PySem.W.Frag} {mg : Str → Option Value} (Bl : Blt mg) (Tb : BkTxt K) (Tm : BkMk K mg)
    (H_steps_from : Has K mg "steps_from" s_steps_from ["pile", "lit"])
    (H_road : Has K mg "road" s_road ["pile", "start", "goal"])
    (H_clash : Has K mg "clash" s_clash ["many", "pile"])
    (H_spread : Has K mg "spread" s_spread ["pile", "starts"])
    (H_peaceful : Has K mg "peaceful" s_peaceful ["lits"])
    (H_least_with : Has K mg "least_with" s_least_with ["many", "pile", "wishes"])
    (H_least : Has K mg "least" s_least ["many", "pile"])
    (H_why : Has K mg "why" s_why ["many", "pile", "say"])
    (H_against : Has K mg "against" s_against ["many", "pile", "say"])
    (H_m___init__ : HasM K "__init__" "Book.__init__" s_m___init__ ["self", "many"])
    (H_m_add : HasM K "add" "Book.add" s_m_add ["self", "say"])
    (H_m_back : HasM K "back" "Book.back" s_m_back ["self"])
    (H_m_says : HasM K "says" "Book.says" s_m_says ["self"])
    (H_m_setting : HasM K "setting" "Book.setting" s_m_setting ["self"])
    (H_m_ring : HasM K "ring" "Book.ring" s_m_ring ["self"])
    (H_m_ask : HasM K "ask" "Book.ask" s_m_ask ["self", "say"])
    (H__law_cell_at : Has K mg "_law_cell_at" s__law_cell_at ["script", "k"])
    (H__law_lit_by : Has K mg "_law_lit_by" s__law_lit_by ["index"])
    (H__law_whole : Has K mg "_law_whole" s__law_whole ["found"])
    (H__law_true : Has K mg "_law_true" s__law_true ["say", "bits"])
    (H__law_all_true : Has K mg "_law_all_true" s__law_all_true ["pile", "bits"])
    (H__law_is_setting : Has K mg "_law_is_setting" s__law_is_setting ["found", "many"])
    (H__law_step : Has K mg "_law_step" s__law_step ["pile", "here", "there"])
    (H__law_is_road : Has K mg "_law_is_road" s__law_is_road ["pile", "found"])
    (H__law_is_ring : Has K mg "_law_is_ring" s__law_is_ring ["pile", "found"])
    (H__law_reach : Has K mg "_law_reach" s__law_reach ["pile", "starts"])
    (H__law_torn : Has K mg "_law_torn" s__law_torn ["lits"])
    (H__law_lits : Has K mg "_law_lits" s__law_lits ["bits", "count"])
    (H__law_first : Has K mg "_law_first" s__law_first ["pile", "wishes", "bits"])
    (H__law_told : Has K mg "_law_told" s__law_told ["book", "pile"])
    (H__law_answers : Has K mg "_law_answers" s__law_answers ["book", "pile", "say", "found"])
    (H__law_asked : Has K mg "_law_asked" s__law_asked ["book", "pile", "say"])
    (H__law_which : Has K mg "_law_which" s__law_which ["e"])
    (H__law_put_ill : Has K mg "_law_put_ill" s__law_put_ill ["book", "say"])
    (H__law_taken_ill : Has K mg "_law_taken_ill" s__law_taken_ill ["book"])
    (H__law_deed : Has K mg "_law_deed" s__law_deed ["book", "pile", "cell", "many"])
    (H_law : Has K mg "law" s_law ["script"])
    {t_ROOM : Tok} (c_ROOM : mg "ROOM" = some (.int 400 t_ROOM))
    (e_BadSay : ExcAt K mg "BadSay")
    (e_FullBook : ExcAt K mg "FullBook")
    (e_EmptyBook : ExcAt K mg "EmptyBook")
    (x_BadSay : ExcIs K mg "BadSay" "SayError" ["EmptyBook", "BadLine", "FullBook", "NoSetting"])
    (x_EmptyBook : ExcIs K mg "EmptyBook" "SayError" ["BadSay", "BadLine", "FullBook", "NoSetting"])
    : Has K mg "law" s_law ["script"] ∧ ∀ (a : Addr) (fd : FuncData), Fun K "law" "law" s_law a fd → ∀ base : Heap, FnOk P w K mg base (L2.CX P w) 9 a fd ["script"] (spLaw K) := by
  refine ⟨H_law, fun a fd Fn base => ?_⟩
  have a_add := ka_add (P := P) (w := w) (base := base) H_m_add Bl Tb c_ROOM e_BadSay e_FullBook
  have a_back := ka_back (P := P) (w := w) (base := base) H_m_back Bl Tb e_EmptyBook
  have w_BadSay := kw_BadSay (P := P) (w := w) (base := base) H__law_which Bl x_BadSay
  have w_EmptyBook := kw_EmptyBook (P := P) (w := w) (base := base) H__law_which Bl x_EmptyBook
  have h_steps_from := k_steps_from (P := P) (w := w) (base := base) H_steps_from Bl 
  have h_road := k_road (P := P) (w := w) (base := base) H_road Bl h_steps_from
  have h_clash := k_clash (P := P) (w := w) (base := base) H_clash Bl h_road
  have h_spread := k_spread (P := P) (w := w) (base := base) H_spread Bl h_steps_from
  have h_peaceful := k_peaceful (P := P) (w := w) (base := base) H_peaceful Bl 
  have h_least_with := k_least_with (P := P) (w := w) (base := base) H_least_with Bl h_spread h_peaceful
  have h_least := k_least (P := P) (w := w) (base := base) H_least Bl h_least_with
  have h_why := k_why (P := P) (w := w) (base := base) H_why Bl h_clash h_road
  have h_against := k_against (P := P) (w := w) (base := base) H_against Bl h_least_with
  have a_init := ka_init (P := P) (w := w) (mg := mg) (base := base) H_m___init__ Tb
  have h_m_add := k_m_add (P := P) (w := w) (base := base) H_m_add Bl Tb  c_ROOM e_BadSay e_FullBook
  have h_m_back := k_m_back (P := P) (w := w) (base := base) H_m_back Bl Tb  e_EmptyBook
  have h_m_says := k_m_says (P := P) (w := w) (base := base) H_m_says Bl Tb 
  have h_m_setting := k_m_setting (P := P) (w := w) (base := base) H_m_setting Bl Tb h_least
  have h_m_ring := k_m_ring (P := P) (w := w) (base := base) H_m_ring Bl Tb h_clash
  have h_m_ask := k_m_ask (P := P) (w := w) (base := base) H_m_ask Bl Tb h_why h_against
  have h__law_cell_at := k__law_cell_at (P := P) (w := w) (base := base) H__law_cell_at Bl 
  have h__law_lit_by := k__law_lit_by (P := P) (w := w) (base := base) H__law_lit_by Bl 
  have h__law_whole := k__law_whole (P := P) (w := w) (base := base) H__law_whole Bl 
  have h__law_true := k__law_true (P := P) (w := w) (base := base) H__law_true Bl 
  have h__law_all_true := k__law_all_true (P := P) (w := w) (base := base) H__law_all_true Bl h__law_true
  have h__law_is_setting := k__law_is_setting (P := P) (w := w) (base := base) H__law_is_setting Bl 
  have h__law_step := k__law_step (P := P) (w := w) (base := base) H__law_step Bl 
  have h__law_is_road := k__law_is_road (P := P) (w := w) (base := base) H__law_is_road Bl h__law_step h__law_whole
  have h__law_is_ring := k__law_is_ring (P := P) (w := w) (base := base) H__law_is_ring Bl h__law_is_road
  have h__law_reach := k__law_reach (P := P) (w := w) (base := base) H__law_reach Bl 
  have h__law_torn := k__law_torn (P := P) (w := w) (base := base) H__law_torn Bl 
  have h__law_lits := k__law_lits (P := P) (w := w) (base := base) H__law_lits Bl 
  have h__law_first := k__law_first (P := P) (w := w) (base := base) H__law_first Bl h__law_torn h__law_reach h__law_lits
  have h__law_told := k__law_told (P := P) (w := w) (base := base) H__law_told Bl Tb h_m_setting h_m_ring h__law_first h__law_is_ring h__law_is_setting h__law_all_true
  have h__law_answers := k__law_answers (P := P) (w := w) (base := base) H__law_answers Bl Tb h__law_is_ring h__law_is_road h__law_first h__law_is_setting h__law_all_true h__law_true h_m_setting
  have h__law_asked := k__law_asked (P := P) (w := w) (base := base) H__law_asked h_m_ask h__law_answers
  have h__law_put_ill := k__law_put_ill (P := P) (w := w) (base := base) H__law_put_ill Bl h_m_add x_BadSay w_BadSay
  have h__law_taken_ill := k__law_taken_ill (P := P) (w := w) (base := base) H__law_taken_ill Bl h_m_back x_EmptyBook w_EmptyBook
  have h__law_deed := k__law_deed (P := P) (w := w) (base := base) H__law_deed Bl h__law_asked h__law_lit_by h__law_put_ill h__law_told h__law_taken_ill h_m_setting h_m_ring
  exact k_law Fn Bl Tb Tm h__law_cell_at h__law_whole h__law_told h__law_deed h_m_says h_m_setting h_m_ring a_init (ka_deed (P := P) (w := w) (base := base) H__law_deed Bl h__law_lit_by a_add a_back)
end Px
open PySem PySem.W PyProof.Rows in
set_option maxRecDepth 100000 in
set_option maxHeartbeats 0 in
theorem PySem.Challenge.cw_eitherbook_k12_whole_book_holds : PySem.Challenge.rw_eitherbook_k12_whole_book.Holds := by
  w_on; o_law; k_head; (case hw => w_witness2)
  k_fill
  refine Px.law_walk (l := PySem.Challenge.rw_eitherbook_k12_whole_book) (k := 9) (st := Px.s_law) rfl rfl ⟨rfl, by decide, by decide⟩ rfl (fun w h Y => PySem.W.kIn_of Y) ?F
  case F =>
    intro w mg h KX G
    refine' Px.all_k12 ?bl ?tb ?tm ?h0 ?h1 ?h2 ?h3 ?h4 ?h5 ?h6 ?h7 ?h8 ?h9 ?h10 ?h11 ?h12 ?h13 ?h14 ?h15 ?h16 ?h17 ?h18 ?h19 ?h20 ?h21 ?h22 ?h23 ?h24 ?h25 ?h26 ?h27 ?h28 ?h29 ?h30 ?h31 ?h32 ?h33 ?h34 ?h35 ?h36 (PySem.W.mg_of KX G ?c0) ?e0 ?e1 ?e2 ?x0 ?x1
    case bl =>
      refine' ⟨PySem.W.mg_none_of KX G ?b1, PySem.W.mg_none_of KX G ?b2, PySem.W.mg_none_of KX G ?b3, PySem.W.mg_none_of KX G ?b4, PySem.W.mg_none_of KX G ?b5, PySem.W.mg_none_of KX G ?b6, PySem.W.mg_none_of KX G ?b7, PySem.W.mg_none_of KX G ?b8, PySem.W.mg_none_of KX G ?b9⟩
      (case b1 => k_is)
      (case b2 => k_is)
      (case b3 => k_is)
      (case b4 => k_is)
      (case b5 => k_is)
      (case b6 => k_is)
      (case b7 => k_is)
      (case b8 => k_is)
      (case b9 => k_is)
    case tb =>
      refine' Px.bkTxt_of ?aC ⟨?pg, ?hd, ?po, ?sa⟩ ?nM ?nH
      (case aC => k_is)
      (case pg => k_is)
      (case hd => k_is)
      (case po => k_is)
      (case sa => k_is)
      (case nM => k_is)
      (case nH => k_is)
    case tm =>
      refine' Px.bkMk_of KX G ?aC ⟨?pg, ?hd, ?po, ?sa⟩ ?nM ?nH ?mk ?kp
      (case aC => k_is)
      (case pg => k_is)
      (case hd => k_is)
      (case po => k_is)
      (case sa => k_is)
      (case nM => k_is)
      (case nH => k_is)
      (case mk => k_is)
      (case kp => k_is)
    case h0 =>
      refine' Px.has_of Px.b_steps_from KX G ?a ?l ?c ?k
      (case a => k_is)
      (case l => k_is)
      (case c => k_is)
      (case k => k_is)
    case h1 =>
      refine' Px.has_of Px.b_road KX G ?a ?l ?c ?k
      (case a => k_is)
      (case l => k_is)
      (case c => k_is)
      (case k => k_is)
    case h2 =>
      refine' Px.has_of Px.b_clash KX G ?a ?l ?c ?k
      (case a => k_is)
      (case l => k_is)
      (case c => k_is)
      (case k => k_is)
    case h3 =>
      refine' Px.has_of Px.b_spread KX G ?a ?l ?c ?k
      (case a => k_is)
      (case l => k_is)
      (case c => k_is)
      (case k => k_is)
    case h4 =>
      refine' Px.has_of Px.b_peaceful KX G ?a ?l ?c ?k
      (case a => k_is)
      (case l => k_is)
      (case c => k_is)
      (case k => k_is)
    case h5 =>
      refine' Px.has_of Px.b_least_with KX G ?a ?l ?c ?k
      (case a => k_is)
      (case l => k_is)
      (case c => k_is)
      (case k => k_is)
    case h6 =>
      refine' Px.has_of Px.b_least KX G ?a ?l ?c ?k
      (case a => k_is)
      (case l => k_is)
      (case c => k_is)
      (case k => k_is)
    case h7 =>
      refine' Px.has_of Px.b_why KX G ?a ?l ?c ?k
      (case a => k_is)
      (case l => k_is)
      (case c => k_is)
      (case k => k_is)
    case h8 =>
      refine' Px.has_of Px.b_against KX G ?a ?l ?c ?k
      (case a => k_is)
      (case l => k_is)
      (case c => k_is)
      (case k => k_is)
    case h9 =>
      refine' Px.hasM_of Px.b_m___init__ ?aC ⟨?pg, ?hd, ?po, ?sa⟩ ?a ?i ?l ?c ?k
      (case aC => k_is)
      (case pg => k_is)
      (case hd => k_is)
      (case po => k_is)
      (case sa => k_is)
      (case a => k_is)
      (case i => k_is)
      (case l => k_is)
      (case c => k_is)
      (case k => k_is)
    case h10 =>
      refine' Px.hasM_of Px.b_m_add ?aC ⟨?pg, ?hd, ?po, ?sa⟩ ?a ?i ?l ?c ?k
      (case aC => k_is)
      (case pg => k_is)
      (case hd => k_is)
      (case po => k_is)
      (case sa => k_is)
      (case a => k_is)
      (case i => k_is)
      (case l => k_is)
      (case c => k_is)
      (case k => k_is)
    case h11 =>
      refine' Px.hasM_of Px.b_m_back ?aC ⟨?pg, ?hd, ?po, ?sa⟩ ?a ?i ?l ?c ?k
      (case aC => k_is)
      (case pg => k_is)
      (case hd => k_is)
      (case po => k_is)
      (case sa => k_is)
      (case a => k_is)
      (case i => k_is)
      (case l => k_is)
      (case c => k_is)
      (case k => k_is)
    case h12 =>
      refine' Px.hasM_of Px.b_m_says ?aC ⟨?pg, ?hd, ?po, ?sa⟩ ?a ?i ?l ?c ?k
      (case aC => k_is)
      (case pg => k_is)
      (case hd => k_is)
      (case po => k_is)
      (case sa => k_is)
      (case a => k_is)
      (case i => k_is)
      (case l => k_is)
      (case c => k_is)
      (case k => k_is)
    case h13 =>
      refine' Px.hasM_of Px.b_m_setting ?aC ⟨?pg, ?hd, ?po, ?sa⟩ ?a ?i ?l ?c ?k
      (case aC => k_is)
      (case pg => k_is)
      (case hd => k_is)
      (case po => k_is)
      (case sa => k_is)
      (case a => k_is)
      (case i => k_is)
      (case l => k_is)
      (case c => k_is)
      (case k => k_is)
    case h14 =>
      refine' Px.hasM_of Px.b_m_ring ?aC ⟨?pg, ?hd, ?po, ?sa⟩ ?a ?i ?l ?c ?k
      (case aC => k_is)
      (case pg => k_is)
      (case hd => k_is)
      (case po => k_is)
      (case sa => k_is)
      (case a => k_is)
      (case i => k_is)
      (case l => k_is)
      (case c => k_is)
      (case k => k_is)
    case h15 =>
      refine' Px.hasM_of Px.b_m_ask ?aC ⟨?pg, ?hd, ?po, ?sa⟩ ?a ?i ?l ?c ?k
      (case aC => k_is)
      (case pg => k_is)
      (case hd => k_is)
      (case po => k_is)
      (case sa => k_is)
      (case a => k_is)
      (case i => k_is)
      (case l => k_is)
      (case c => k_is)
      (case k => k_is)
    case h16 =>
      refine' Px.has_of Px.b__law_cell_at KX G ?a ?l ?c ?k
      (case a => k_is)
      (case l => k_is)
      (case c => k_is)
      (case k => k_is)
    case h17 =>
      refine' Px.has_of Px.b__law_lit_by KX G ?a ?l ?c ?k
      (case a => k_is)
      (case l => k_is)
      (case c => k_is)
      (case k => k_is)
    case h18 =>
      refine' Px.has_of Px.b__law_whole KX G ?a ?l ?c ?k
      (case a => k_is)
      (case l => k_is)
      (case c => k_is)
      (case k => k_is)
    case h19 =>
      refine' Px.has_of Px.b__law_true KX G ?a ?l ?c ?k
      (case a => k_is)
      (case l => k_is)
      (case c => k_is)
      (case k => k_is)
    case h20 =>
      refine' Px.has_of Px.b__law_all_true KX G ?a ?l ?c ?k
      (case a => k_is)
      (case l => k_is)
      (case c => k_is)
      (case k => k_is)
    case h21 =>
      refine' Px.has_of Px.b__law_is_setting KX G ?a ?l ?c ?k
      (case a => k_is)
      (case l => k_is)
      (case c => k_is)
      (case k => k_is)
    case h22 =>
      refine' Px.has_of Px.b__law_step KX G ?a ?l ?c ?k
      (case a => k_is)
      (case l => k_is)
      (case c => k_is)
      (case k => k_is)
    case h23 =>
      refine' Px.has_of Px.b__law_is_road KX G ?a ?l ?c ?k
      (case a => k_is)
      (case l => k_is)
      (case c => k_is)
      (case k => k_is)
    case h24 =>
      refine' Px.has_of Px.b__law_is_ring KX G ?a ?l ?c ?k
      (case a => k_is)
      (case l => k_is)
      (case c => k_is)
      (case k => k_is)
    case h25 =>
      refine' Px.has_of Px.b__law_reach KX G ?a ?l ?c ?k
      (case a => k_is)
      (case l => k_is)
      (case c => k_is)
      (case k => k_is)
    case h26 =>
      refine' Px.has_of Px.b__law_torn KX G ?a ?l ?c ?k
      (case a => k_is)
      (case l => k_is)
      (case c => k_is)
      (case k => k_is)
    case h27 =>
      refine' Px.has_of Px.b__law_lits KX G ?a ?l ?c ?k
      (case a => k_is)
      (case l => k_is)
      (case c => k_is)
      (case k => k_is)
    case h28 =>
      refine' Px.has_of Px.b__law_first KX G ?a ?l ?c ?k
      (case a => k_is)
      (case l => k_is)
      (case c => k_is)
      (case k => k_is)
    case h29 =>
      refine' Px.has_of Px.b__law_told KX G ?a ?l ?c ?k
      (case a => k_is)
      (case l => k_is)
      (case c => k_is)
      (case k => k_is)
    case h30 =>
      refine' Px.has_of Px.b__law_answers KX G ?a ?l ?c ?k
      (case a => k_is)
      (case l => k_is)
      (case c => k_is)
      (case k => k_is)
    case h31 =>
      refine' Px.has_of Px.b__law_asked KX G ?a ?l ?c ?k
      (case a => k_is)
      (case l => k_is)
      (case c => k_is)
      (case k => k_is)
    case h32 =>
      refine' Px.has_of Px.b__law_which KX G ?a ?l ?c ?k
      (case a => k_is)
      (case l => k_is)
      (case c => k_is)
      (case k => k_is)
    case h33 =>
      refine' Px.has_of Px.b__law_put_ill KX G ?a ?l ?c ?k
      (case a => k_is)
      (case l => k_is)
      (case c => k_is)
      (case k => k_is)
    case h34 =>
      refine' Px.has_of Px.b__law_taken_ill KX G ?a ?l ?c ?k
      (case a => k_is)
      (case l => k_is)
      (case c => k_is)
      (case k => k_is)
    case h35 =>
      refine' Px.has_of Px.b__law_deed KX G ?a ?l ?c ?k
      (case a => k_is)
      (case l => k_is)
      (case c => k_is)
      (case k => k_is)
    case h36 =>
      refine' Px.has_of Px.b_law KX G ?a ?l ?c ?k
      (case a => k_is)
      (case l => k_is)
      (case c => k_is)
      (case k => k_is)
    (case c0 => k_is)
    case e0 =>
      refine' Px.exc_of KX G ?a ?b ?c ?d ?e
      (case a => k_is)
      (case b => k_exc)
      (case c => k_is)
      (case d => k_is)
      (case e => k_is)
    case e1 =>
      refine' Px.exc_of KX G ?a ?b ?c ?d ?e
      (case a => k_is)
      (case b => k_exc)
      (case c => k_is)
      (case d => k_is)
      (case e => k_is)
    case e2 =>
      refine' Px.exc_of KX G ?a ?b ?c ?d ?e
      (case a => k_is)
      (case b => k_exc)
      (case c => k_is)
      (case d => k_is)
      (case e => k_is)
    case x0 =>
      refine' Px.exis_ofL KX G ?v ?a ?b ?s1 ?s2 ?s3 ?s4 ?h1 ?h2 ?h3 ?h4 ?h5 ?h6 ?h7 ?h8 ?h9 ⟨?n1, ?n2, ?n3, ?n4, trivial⟩
      (case v => k_is)
      (case a => k_is)
      (case b => k_is)
      (case s1 => k_is)
      (case s2 => k_is)
      (case s3 => k_is)
      (case s4 => k_is)
      (case h1 => k_is)
      (case h2 => k_is)
      (case h3 => k_is)
      (case h4 => k_is)
      (case h5 => k_is)
      (case h6 => k_is)
      (case h7 => k_is)
      (case h8 => k_is)
      (case h9 => k_is)
      (case n1 => (refine' Px.cls_no KX G ?a ?ne ?h2 ?h3 ?h4; (case a => k_is); (case ne => decide); (case h2 => k_is); (case h3 => k_is); (case h4 => k_is)))
      (case n2 => (refine' Px.cls_no KX G ?a ?ne ?h2 ?h3 ?h4; (case a => k_is); (case ne => decide); (case h2 => k_is); (case h3 => k_is); (case h4 => k_is)))
      (case n3 => (refine' Px.cls_no KX G ?a ?ne ?h2 ?h3 ?h4; (case a => k_is); (case ne => decide); (case h2 => k_is); (case h3 => k_is); (case h4 => k_is)))
      (case n4 => (refine' Px.cls_no KX G ?a ?ne ?h2 ?h3 ?h4; (case a => k_is); (case ne => decide); (case h2 => k_is); (case h3 => k_is); (case h4 => k_is)))
    case x1 =>
      refine' Px.exis_ofL KX G ?v ?a ?b ?s1 ?s2 ?s3 ?s4 ?h1 ?h2 ?h3 ?h4 ?h5 ?h6 ?h7 ?h8 ?h9 ⟨?n1, ?n2, ?n3, ?n4, trivial⟩
      (case v => k_is)
      (case a => k_is)
      (case b => k_is)
      (case s1 => k_is)
      (case s2 => k_is)
      (case s3 => k_is)
      (case s4 => k_is)
      (case h1 => k_is)
      (case h2 => k_is)
      (case h3 => k_is)
      (case h4 => k_is)
      (case h5 => k_is)
      (case h6 => k_is)
      (case h7 => k_is)
      (case h8 => k_is)
      (case h9 => k_is)
      (case n1 => (refine' Px.cls_no KX G ?a ?ne ?h2 ?h3 ?h4; (case a => k_is); (case ne => decide); (case h2 => k_is); (case h3 => k_is); (case h4 => k_is)))
      (case n2 => (refine' Px.cls_no KX G ?a ?ne ?h2 ?h3 ?h4; (case a => k_is); (case ne => decide); (case h2 => k_is); (case h3 => k_is); (case h4 => k_is)))
      (case n3 => (refine' Px.cls_no KX G ?a ?ne ?h2 ?h3 ?h4; (case a => k_is); (case ne => decide); (case h2 => k_is); (case h3 => k_is); (case h4 => k_is)))
      (case n4 => (refine' Px.cls_no KX G ?a ?ne ?h2 ?h3 ?h4; (case a => k_is); (case ne => decide); (case h2 => k_is); (case h3 => k_is); (case h4 => k_is)))
