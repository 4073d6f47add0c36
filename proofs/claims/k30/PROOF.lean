import PyProof.Rows.All
import Wide.All
import OpenK.AllK
import Wide.FinOn
import HandS.ForMost
import HandS.ForExc
import HandS.Flow
import HandS.Deep
import HandS.IsInst
import HandS.TupAny
import HandS.TupMul
import HandS.Text
import HandS.Defaults
import HandS.Comp
import HandS.Dict
import HandS.Codes
import HandS.Ends
import HandS.HeadHook1
import HandS.HeadHook2
import HandS.HeadEnd
import HandS.Head0
import HandS.Head1
import HandS.Head2
import PySem.Challenge.RW_machinecast_k30_trees_known
set_option Elab.async false
set_option linter.all false
set_option autoImplicit false
set_option maxRecDepth 100000
/-! MC, part 1: data, the store, the world, readings over data. -/
namespace MC
open PySem PySem.Spec PyProof.Rows L2

/-- Python data as the proofs see it: whole values; cell n is the n-th thing of the store (it may change) -/
inductive D where
  | non | bl (b : Bool) | int (i : Int) | str (x : Str)
  | tup (l : List D) | lst (l : List D) | ro (l : List D)
  | dic (ks : List Key) (vs : List D) | cell (n : Nat) | ty (n : String)
/-- what stands in the store -/
inductive C where
  | dead | lst (l : List D) | dic (ks : List Key) (vs : List D)
abbrev Sto := List C
abbrev Rho := List (Option D)
inductive Res (α : Type) where
  | ok (a : α) (st : Sto) | ex (c : Nat) (st : Sto)
abbrev M (α : Type) := Sto → Option (Res α)
def M.ret {α : Type} (a : α) : M α := fun st => some (.ok a st)
def M.no {α : Type} : M α := fun _ => none
def M.raise {α : Type} (c : Nat) : M α := fun st => some (.ex c st)
def M.bind {α β : Type} (x : M α) (f : α → M β) : M β := fun st => match x st with
  | none => none
  | some (.ok a st') => f a st'
  | some (.ex c st') => some (.ex c st')
def M.opt {α : Type} : Option α → M α
  | none => M.no
  | some a => M.ret a
@[simp] theorem M.bind_ret {α β : Type} (a : α) (f : α → M β) : (M.ret a).bind f = f a := rfl
@[simp] theorem M.bind_no {α β : Type} (f : α → M β) : (M.no : M α).bind f = M.no := rfl
@[simp] theorem M.bind_raise {α β : Type} (c : Nat) (f : α → M β) : (M.raise c : M α).bind f = M.raise c := rfl
@[simp] theorem M.opt_some {α : Type} (a : α) : M.opt (some a) = M.ret a := rfl
@[simp] theorem M.opt_none {α : Type} : M.opt (none : Option α) = M.no := rfl
theorem M.bind_of {α β : Type} {x : M α} {f : α → M β} {st st' : Sto} {a : α} (h : x st = some (.ok a st')) : (x.bind f) st = f a st' := by
  unfold M.bind
  rw [h]
theorem M.bind_assoc {α β γ : Type} (x : M α) (f : α → M β) (g : β → M γ) : (x.bind f).bind g = x.bind fun a => (f a).bind g := by
  funext st
  unfold M.bind
  cases x st with
  | none => rfl
  | some r => cases r <;> rfl

/-! ### values bear data -/
/-- where the store's things stand; lists that are being made (no data names them) -/
structure CS where
  l : List Addr
  g : List (Addr × List V)
mutual
inductive Rp (K : PySem.W.Frag) (F : Hp) (cs : CS) : D → V → Prop
  | non : Rp K F cs .non .non
  | bl (b : Bool) : Rp K F cs (.bl b) (.bl b)
  | int (i : Int) : Rp K F cs (.int i) (.int i)
  | str (x : Str) : Rp K F cs (.str x) (.str x)
  | tup {a : Addr} {vs : List V} {l : List D} : SqT K F a vs → RpL K F cs l vs → Rp K F cs (.tup l) (.ref a)
  | lst {a : Addr} {vs : List V} {l : List D} : F a = some (.lst vs) → RpL K F cs l vs → Rp K F cs (.lst l) (.ref a)
  | ro {a : Addr} {vs : List V} {l : List D} : SqL K F a vs → RpL K F cs l vs → Rp K F cs (.ro l) (.ref a)
  | dic {a : Addr} {ks : List Key} {ws : List V} {vs : List D} : F a = some (.dK (ks.zip ws)) → ks.length = ws.length → RpL K F cs vs ws → Rp K F cs (.dic ks vs) (.ref a)
  | cell {a : Addr} {n : Nat} : cs.l[n]? = some a → Rp K F cs (.cell n) (.ref a)
  | ty (n : String) : Rp K F cs (.ty n) (.ty n)
inductive RpL (K : PySem.W.Frag) (F : Hp) (cs : CS) : List D → List V → Prop
  | nil : RpL K F cs [] []
  | cons {d : D} {v : V} {ds : List D} {vs : List V} : Rp K F cs d v → RpL K F cs ds vs → RpL K F cs (d :: ds) (v :: vs)
end

structure Exw (F F' : Hp) (cs cs' : CS) : Prop where
  hp : ∀ (a : Addr) (o : HO), F a = some o → F' a = some o
  cl : ∀ (n : Nat) (a : Addr), cs.l[n]? = some a → cs'.l[n]? = some a
structure Ext (F F' : Hp) (cs cs' : CS) : Prop where
  hp : ∀ (a : Addr) (o : HO), F a = some o → F' a = some o
  cl : ∀ (n : Nat) (a : Addr), cs.l[n]? = some a → cs'.l[n]? = some a
  gh : cs'.g = cs.g
theorem Ext.w {F F' : Hp} {cs cs' : CS} (e : Ext F F' cs cs') : Exw F F' cs cs' := ⟨e.hp, e.cl⟩
theorem Exw.trans {F F1 F2 : Hp} {cs cs1 cs2 : CS} (a : Exw F F1 cs cs1) (b : Exw F1 F2 cs1 cs2) : Exw F F2 cs cs2 := ⟨fun x o h => b.hp x o (a.hp x o h), fun n x h => b.cl n x (a.cl n x h)⟩
theorem Ext.refl {F : Hp} {cs : CS} : Ext F F cs cs := ⟨fun _ _ h => h, fun _ _ h => h, rfl⟩
theorem Ext.trans {F F1 F2 : Hp} {cs cs1 cs2 : CS} (a : Ext F F1 cs cs1) (b : Ext F1 F2 cs1 cs2) : Ext F F2 cs cs2 := ⟨fun x o h => b.hp x o (a.hp x o h), fun n x h => b.cl n x (a.cl n x h), b.gh.trans a.gh⟩
section
variable {K : PySem.W.Frag} {F F' : Hp} {cs cs' : CS}
theorem Exw.rd (e : Exw F F' cs cs') {a : Addr} {u : HO} (h : Rd F a u) : Rd F' a u := by
  rcases h with h | ⟨o, h⟩
  · exact .inl (e.hp a _ h)
  · exact .inr ⟨o, e.hp a _ h⟩
theorem Exw.sqT (e : Exw F F' cs cs') {a : Addr} {xs : List V} (h : SqT K F a xs) : SqT K F' a xs := h.elim (fun q => .inl (e.rd q)) .inr
theorem Exw.sqL (e : Exw F F' cs cs') {a : Addr} {xs : List V} (h : SqL K F a xs) : SqL K F' a xs := h.elim (fun q => .inl (e.rd q)) .inr
theorem Ext.sqT (e : Ext F F' cs cs') {a : Addr} {xs : List V} (h : SqT K F a xs) : SqT K F' a xs := e.w.sqT h
theorem Ext.sqL (e : Ext F F' cs cs') {a : Addr} {xs : List V} (h : SqL K F a xs) : SqL K F' a xs := e.w.sqL h
mutual
theorem Rp.monow (e : Exw F F' cs cs') : ∀ {d : D} {v : V}, Rp K F cs d v → Rp K F' cs' d v
  | _, _, .non => .non
  | _, _, .bl b => .bl b
  | _, _, .int i => .int i
  | _, _, .str x => .str x
  | _, _, .tup h r => .tup (e.sqT h) (RpL.monow e r)
  | _, _, .lst h r => .lst (e.hp _ _ h) (RpL.monow e r)
  | _, _, .ro h r => .ro (e.sqL h) (RpL.monow e r)
  | _, _, .dic h z r => .dic (e.hp _ _ h) z (RpL.monow e r)
  | _, _, .cell h => .cell (e.cl _ _ h)
  | _, _, .ty n => .ty n
theorem RpL.monow (e : Exw F F' cs cs') : ∀ {ds : List D} {vs : List V}, RpL K F cs ds vs → RpL K F' cs' ds vs
  | _, _, .nil => .nil
  | _, _, .cons r s => .cons (Rp.monow e r) (RpL.monow e s)
end
theorem Rp.mono (e : Ext F F' cs cs') {d : D} {v : V} (r : Rp K F cs d v) : Rp K F' cs' d v := r.monow e.w
theorem RpL.mono (e : Ext F F' cs cs') {d : List D} {v : List V} (r : RpL K F cs d v) : RpL K F' cs' d v := r.monow e.w
theorem RpL.length : ∀ {ds : List D} {vs : List V}, RpL K F cs ds vs → ds.length = vs.length
  | _, _, .nil => rfl
  | _, _, .cons _ s => congrArg (· + 1) s.length
theorem RpL.get : ∀ {ds : List D} {vs : List V} {i : Nat} {d : D}, RpL K F cs ds vs → ds[i]? = some d → ∃ v, vs[i]? = some v ∧ Rp K F cs d v
  | _, _, _, _, .nil, h => by simp at h
  | _, _, 0, _, .cons r _, h => by
    simp at h
    subst h
    exact ⟨_, rfl, r⟩
  | _, _, i + 1, d, .cons _ s, h => by
    obtain ⟨v, h1, h2⟩ := RpL.get (i := i) (d := d) s (by simpa using h)
    exact ⟨v, by simpa using h1, h2⟩
theorem RpL.get' : ∀ {ds : List D} {vs : List V} {i : Nat} {v : V}, RpL K F cs ds vs → vs[i]? = some v → ∃ d, ds[i]? = some d ∧ Rp K F cs d v
  | _, _, _, _, .nil, h => by simp at h
  | _, _, 0, _, .cons r _, h => by
    simp at h
    subst h
    exact ⟨_, rfl, r⟩
  | _, _, i + 1, v, .cons _ s, h => by
    obtain ⟨d, h1, h2⟩ := RpL.get' (i := i) (v := v) s (by simpa using h)
    exact ⟨d, by simpa using h1, h2⟩
theorem RpL.append : ∀ {ds es : List D} {vs ws : List V}, RpL K F cs ds vs → RpL K F cs es ws → RpL K F cs (ds ++ es) (vs ++ ws)
  | _, _, _, _, .nil, s => s
  | _, _, _, _, .cons r t, s => .cons r (RpL.append t s)
theorem RpL.take : ∀ {ds : List D} {vs : List V} (n : Nat), RpL K F cs ds vs → RpL K F cs (ds.take n) (vs.take n)
  | _, _, 0, _ => .nil
  | _, _, _ + 1, .nil => .nil
  | _, _, n + 1, .cons r t => .cons r (RpL.take n t)
theorem RpL.drop : ∀ {ds : List D} {vs : List V} (n : Nat), RpL K F cs ds vs → RpL K F cs (ds.drop n) (vs.drop n)
  | _, _, 0, r => r
  | _, _, _ + 1, .nil => .nil
  | _, _, n + 1, .cons _ t => RpL.drop n t
theorem RpL.reverse {ds : List D} {vs : List V} (h : RpL K F cs ds vs) : RpL K F cs ds.reverse vs.reverse := by
  induction ds generalizing vs with
  | nil => cases h; exact .nil
  | cons d ds ih =>
    cases h with
    | cons r t => rw [List.reverse_cons, List.reverse_cons]; exact RpL.append (ih t) (.cons r .nil)
theorem RpL.set {d : D} {v : V} (r : Rp K F cs d v) : ∀ {ds : List D} {vs : List V} (i : Nat), RpL K F cs ds vs → RpL K F cs (ds.set i d) (vs.set i v)
  | _, _, _, .nil => .nil
  | _, _, 0, .cons _ t => .cons r t
  | _, _, i + 1, .cons q t => .cons q (RpL.set r i t)
end

/-! ### the world: what of the heap is fixed (F), the store's things, the heap -/
def CellOk (K : PySem.W.Frag) (F : Hp) (cs : CS) (c : C) (o : Option HO) : Prop := match c with
  | .dead => True
  | .lst l => ∃ vs, o = some (.lst vs) ∧ RpL K F cs l vs
  | .dic ks l => ∃ ws, o = some (.dK (ks.zip ws)) ∧ ks.length = ws.length ∧ RpL K F cs l ws
def C.live : C → Bool
  | .dead => false
  | _ => true
structure Wd (K : PySem.W.Frag) (F : Hp) (cs : CS) (st : Sto) (H : Hp) : Prop where
  sub : ∀ a o, F a = some o → H a = some o
  len : cs.l.length = st.length
  ok : ∀ (n : Nat) (c : C) (a : Addr), st[n]? = some c → cs.l[n]? = some a → c.live = true → CellOk K F cs c (H a) ∧ F a = none
  inj : ∀ (n m : Nat) (c d : C) (a : Addr), st[n]? = some c → st[m]? = some d → cs.l[n]? = some a → cs.l[m]? = some a → c.live = true → d.live = true → n = m
  gok : ∀ p ∈ cs.g, H p.1 = some (.lst p.2) ∧ F p.1 = none
  gne : ∀ (n : Nat) (c : C) (a : Addr) (p : Addr × List V), st[n]? = some c → cs.l[n]? = some a → c.live = true → p ∈ cs.g → a ≠ p.1
  gnd : (cs.g.map (·.1)).Nodup
section
variable {K : PySem.W.Frag} {F F' : Hp} {cs cs' : CS} {st : Sto} {H : Hp}
theorem CellOk.mono (e : Ext F F' cs cs') {c : C} {o : Option HO} (h : CellOk K F cs c o) : CellOk K F' cs' c o := by
  cases c with
  | dead => trivial
  | lst l => obtain ⟨vs, e1, r⟩ := h; exact ⟨vs, e1, r.mono e⟩
  | dic ks l => obtain ⟨ws, e1, e2, r⟩ := h; exact ⟨ws, e1, e2, r.mono e⟩
theorem CellOk.some {c : C} {o : Option HO} (h : CellOk K F cs c o) (l : c.live = true) : ∃ u, o = .some u := by
  cases c with
  | dead => cases l
  | lst l => obtain ⟨vs, e1, r⟩ := h; exact ⟨_, e1⟩
  | dic ks l => obtain ⟨ws, e1, e2, r⟩ := h; exact ⟨_, e1⟩
/-- a new thing that stays as it is -/
theorem Wd.new (w : Wd K F cs st H) {p : Addr} {o : HO} (hp : H p = none) : Ext F (upd F p o) cs cs ∧ Wd K (upd F p o) cs st (upd H p o) := by
  have hF : F p = none := by
    cases q : F p with
    | none => rfl
    | some u => rw [w.sub p u q] at hp; cases hp
  have e : Ext F (upd F p o) cs cs := ⟨fun a u h => by rw [upd_ne (ne_of_none h hF)]; exact h, fun _ _ h => h, rfl⟩
  refine ⟨e, ⟨fun a u h => ?_, w.len, fun n c a h1 h2 l => ?_, w.inj, fun q hq => ?_, w.gne, w.gnd⟩⟩
  · by_cases ha : a = p
    · subst ha
      rw [upd_same] at h ⊢
      exact h
    · rw [upd_ne ha] at h ⊢
      exact w.sub a u h
  · obtain ⟨k, f⟩ := w.ok n c a h1 h2 l
    obtain ⟨u, hu⟩ := k.some l
    have ha : a ≠ p := ne_of_none hu hp
    rw [upd_ne ha, upd_ne ha]
    exact ⟨k.mono e, f⟩
  · obtain ⟨g1, g2⟩ := w.gok q hq
    have ha : q.1 ≠ p := ne_of_none g1 hp
    rw [upd_ne ha, upd_ne ha]
    exact ⟨g1, g2⟩
/-- a new thing of the store -/
theorem Wd.newCell (w : Wd K F cs st H) {p : Addr} {o : HO} {c : C} (hp : H p = none) (hc : CellOk K F cs c (some o)) : Ext F F cs ⟨cs.l ++ [p], cs.g⟩ ∧ Wd K F ⟨cs.l ++ [p], cs.g⟩ (st ++ [c]) (upd H p o) := by
  have hF : F p = none := by
    cases q : F p with
    | none => rfl
    | some u => rw [w.sub p u q] at hp; cases hp
  have e : Ext F F cs ⟨cs.l ++ [p], cs.g⟩ := ⟨fun _ _ h => h, fun n a h => by
    show (cs.l ++ [p])[n]? = some a
    rw [List.getElem?_append_left (List.getElem?_eq_some_iff.mp h).1]
    exact h, rfl⟩
  have get : ∀ (n : Nat) (d : C) (a : Addr), (st ++ [c])[n]? = some d → (cs.l ++ [p])[n]? = some a → (n < st.length ∧ st[n]? = some d ∧ cs.l[n]? = some a) ∨ (n = st.length ∧ d = c ∧ a = p) := fun n d a h1 h2 => by
    by_cases hn : n < st.length
    · rw [List.getElem?_append_left hn] at h1
      rw [List.getElem?_append_left (by rw [w.len]; exact hn)] at h2
      exact .inl ⟨hn, h1, h2⟩
    · have h3 := (List.getElem?_eq_some_iff.mp h1).1
      rw [List.length_append, List.length_singleton] at h3
      have hn' : n = st.length := by omega
      subst hn'
      rw [List.getElem?_append_right (Nat.le_refl _), Nat.sub_self] at h1
      rw [List.getElem?_append_right (by rw [w.len]; exact Nat.le_refl _), w.len, Nat.sub_self] at h2
      exact .inr ⟨rfl, (Option.some.inj h1).symm, (Option.some.inj h2).symm⟩
  have old : ∀ (n : Nat) (d : C) (a : Addr), st[n]? = some d → cs.l[n]? = some a → d.live = true → a ≠ p := fun n d a h1 h2 l => by
    obtain ⟨u, hu⟩ := (w.ok n d a h1 h2 l).1.some l
    exact ne_of_none hu hp
  refine ⟨e, ⟨fun a u h => ?_, by show (cs.l ++ [p]).length = _; rw [List.length_append, List.length_append, w.len]; rfl, fun n d a h1 h2 l => ?_, fun n m d d' a h1 h2 h3 h4 l l' => ?_, fun q hq => ?_, fun n d a q h1 h2 l hq => ?_, w.gnd⟩⟩
  · have ha : a ≠ p := ne_of_none h hF
    rw [upd_ne ha]
    exact w.sub a u h
  · rcases get n d a h1 h2 with ⟨_, g1, g2⟩ | ⟨_, rfl, rfl⟩
    · rw [upd_ne (old n d a g1 g2 l)]
      exact ⟨(w.ok n d a g1 g2 l).1.mono e, (w.ok n d a g1 g2 l).2⟩
    · rw [upd_same]
      exact ⟨hc.mono e, hF⟩
  · rcases get n d a h1 h3 with ⟨_, g1, g2⟩ | ⟨e1, rfl, rfl⟩
    · rcases get m d' a h2 h4 with ⟨_, g3, g4⟩ | ⟨e2, rfl, rfl⟩
      · exact w.inj n m d d' a g1 g3 g2 g4 l l'
      · exact absurd rfl (old n d _ g1 g2 l)
    · rcases get m d' a h2 h4 with ⟨_, g3, g4⟩ | ⟨e2, rfl, _⟩
      · exact absurd rfl (old m d' _ g3 g4 l')
      · rw [e1, e2]
  · obtain ⟨g1, g2⟩ := w.gok q hq
    rw [upd_ne (ne_of_none g1 hp)]
    exact ⟨g1, g2⟩
  · rcases get n d a h1 h2 with ⟨_, g1, g2⟩ | ⟨_, rfl, rfl⟩
    · exact w.gne n d a q g1 g2 l hq
    · exact (ne_of_none (w.gok q hq).1 hp).symm
/-- a thing of the store is changed -/
theorem Wd.setCell (w : Wd K F cs st H) {n : Nat} {a : Addr} {o : HO} {c d : C} (h1 : st[n]? = some c) (h2 : cs.l[n]? = some a) (l : c.live = true) (hd : CellOk K F cs d (some o)) : Wd K F cs (st.set n d) (upd H a o) := by
  obtain ⟨k, f⟩ := w.ok n c a h1 h2 l
  have hn : n < st.length := (List.getElem?_eq_some_iff.mp h1).1
  refine ⟨fun b u h => ?_, by rw [List.length_set]; exact w.len, fun m e b g1 g2 le => ?_, fun m m' e e' b g1 g2 g3 g4 le le' => ?_, fun q hq => ?_, fun m e b q g1 g2 le hq => ?_, w.gnd⟩
  · rw [upd_ne (ne_of_none h f)]
    exact w.sub b u h
  · by_cases hm : n = m
    · subst hm
      rw [List.getElem?_set_self hn] at g1
      rw [h2] at g2
      cases g1
      cases g2
      rw [upd_same]
      exact ⟨hd, f⟩
    · rw [List.getElem?_set_ne hm] at g1
      have hb : b ≠ a := fun z => hm (w.inj n m c e a h1 g1 h2 (z ▸ g2) l le)
      rw [upd_ne hb]
      exact w.ok m e b g1 g2 le
  · have fix : ∀ (m : Nat) (e : C), (st.set n d)[m]? = some e → ∃ e', st[m]? = some e' ∧ (e.live = true → cs.l[m]? = some b → e'.live = true) := fun m e g => by
      by_cases hm : n = m
      · subst hm
        exact ⟨c, h1, fun _ _ => l⟩
      · rw [List.getElem?_set_ne hm] at g
        exact ⟨e, g, fun z _ => z⟩
    obtain ⟨x, q1, q2⟩ := fix m e g1
    obtain ⟨y, q3, q4⟩ := fix m' e' g2
    exact w.inj m m' x y b q1 q3 g3 g4 (q2 le g3) (q4 le' g4)
  · rw [upd_ne (w.gne n c a q h1 h2 l hq).symm]
    exact w.gok q hq
  · by_cases hm : n = m
    · subst hm
      rw [h2] at g2
      cases g2
      exact w.gne n c a q h1 h2 l hq
    · rw [List.getElem?_set_ne hm] at g1
      exact w.gne m e b q g1 g2 le hq
end

/-! ### lists under way -/
section
variable {K : PySem.W.Frag} {F : Hp} {cs : CS} {st : Sto} {H : Hp}
mutual
theorem Rp.gh {g : List (Addr × List V)} : ∀ {d : D} {v : V}, Rp K F cs d v → Rp K F ⟨cs.l, g⟩ d v
  | _, _, .non => .non
  | _, _, .bl b => .bl b
  | _, _, .int i => .int i
  | _, _, .str x => .str x
  | _, _, .tup h r => .tup h (RpL.gh r)
  | _, _, .lst h r => .lst h (RpL.gh r)
  | _, _, .ro h r => .ro h (RpL.gh r)
  | _, _, .dic h z r => .dic h z (RpL.gh r)
  | _, _, .cell h => .cell h
  | _, _, .ty n => .ty n
theorem RpL.gh {g : List (Addr × List V)} : ∀ {ds : List D} {vs : List V}, RpL K F cs ds vs → RpL K F ⟨cs.l, g⟩ ds vs
  | _, _, .nil => .nil
  | _, _, .cons r s => .cons (Rp.gh r) (RpL.gh s)
end
theorem CellOk.gh {g : List (Addr × List V)} {c : C} {o : Option HO} (h : CellOk K F cs c o) : CellOk K F ⟨cs.l, g⟩ c o := by
  cases c with
  | dead => trivial
  | lst l => obtain ⟨vs, e1, r⟩ := h; exact ⟨vs, e1, r.gh⟩
  | dic ks l => obtain ⟨ws, e1, e2, r⟩ := h; exact ⟨ws, e1, e2, r.gh⟩
/-- a list is begun -/
theorem Wd.begin (w : Wd K F cs st H) {p : Addr} (hp : H p = none) : Wd K F ⟨cs.l, (p, []) :: cs.g⟩ st (upd H p (.lst [])) := by
  have hF : F p = none := by
    cases q : F p with
    | none => rfl
    | some u => rw [w.sub p u q] at hp; cases hp
  refine ⟨fun a u h => ?_, w.len, fun n c a h1 h2 l => ?_, w.inj, fun q hq => ?_, fun n c a q h1 h2 l hq => ?_, ?_⟩
  · rw [upd_ne (ne_of_none h hF)]
    exact w.sub a u h
  · obtain ⟨k, f⟩ := w.ok n c a h1 h2 l
    obtain ⟨u, hu⟩ := k.some l
    rw [upd_ne (ne_of_none hu hp)]
    exact ⟨k.gh, f⟩
  · rcases List.mem_cons.mp hq with rfl | hq
    · exact ⟨upd_same, hF⟩
    · rw [upd_ne (ne_of_none (w.gok q hq).1 hp)]
      exact w.gok q hq
  · rcases List.mem_cons.mp hq with rfl | hq
    · obtain ⟨u, hu⟩ := (w.ok n c a h1 h2 l).1.some l
      exact ne_of_none hu hp
    · exact w.gne n c a q h1 h2 l hq
  · show (p :: cs.g.map (·.1)).Nodup
    refine List.nodup_cons.mpr ⟨fun hm => ?_, w.gnd⟩
    obtain ⟨q, hq, e⟩ := List.mem_map.mp hm
    have := (w.gok q hq).1
    rw [show q.1 = p from e, hp] at this
    cases this
/-- .. an item more -/
theorem Wd.grow {p : Addr} {acc acc' : List V} {g : List (Addr × List V)} (hg : cs.g = (p, acc) :: g) (w : Wd K F cs st H) : Wd K F ⟨cs.l, (p, acc') :: g⟩ st (upd H p (.lst acc')) := by
  have hp : (p, acc) ∈ cs.g := by rw [hg]; exact List.mem_cons_self
  obtain ⟨g1, g2⟩ := w.gok _ hp
  have nd := w.gnd
  rw [hg] at nd
  have nd2 := List.nodup_cons.mp (show (p :: g.map (·.1)).Nodup from nd)
  have old : ∀ q ∈ g, q ∈ cs.g ∧ q.1 ≠ p := fun q hq => ⟨by rw [hg]; exact List.mem_cons_of_mem _ hq, fun z => nd2.1 (List.mem_map.mpr ⟨q, hq, z⟩)⟩
  refine ⟨fun a u h => ?_, w.len, fun n c a h1 h2 l => ?_, w.inj, fun q hq => ?_, fun n c a q h1 h2 l hq => ?_, nd⟩
  · rw [upd_ne (ne_of_none h g2)]
    exact w.sub a u h
  · rw [upd_ne (w.gne n c a _ h1 h2 l hp)]
    exact ⟨(w.ok n c a h1 h2 l).1.gh, (w.ok n c a h1 h2 l).2⟩
  · rcases List.mem_cons.mp hq with rfl | hq
    · exact ⟨upd_same, g2⟩
    · rw [upd_ne (old q hq).2]
      exact w.gok q (old q hq).1
  · rcases List.mem_cons.mp hq with rfl | hq
    · exact w.gne n c a (p, acc) h1 h2 l hp
    · exact w.gne n c a q h1 h2 l (old q hq).1
/-- .. and done: it stays as it is -/
theorem Wd.done {p : Addr} {acc : List V} {g : List (Addr × List V)} (hg : cs.g = (p, acc) :: g) (w : Wd K F cs st H) : Wd K (upd F p (.lst acc)) ⟨cs.l, g⟩ st H ∧ (∀ a o, F a = some o → upd F p (.lst acc) a = some o) := by
  have hp : (p, acc) ∈ cs.g := by rw [hg]; exact List.mem_cons_self
  obtain ⟨g1, g2⟩ := w.gok _ hp
  have nd := w.gnd
  rw [hg] at nd
  have nd2 := List.nodup_cons.mp (show (p :: g.map (·.1)).Nodup from nd)
  have old : ∀ q ∈ g, q ∈ cs.g ∧ q.1 ≠ p := fun q hq => ⟨by rw [hg]; exact List.mem_cons_of_mem _ hq, fun z => nd2.1 (List.mem_map.mpr ⟨q, hq, z⟩)⟩
  have hF : ∀ a o, F a = some o → upd F p (.lst acc) a = some o := fun a o h => by rw [upd_ne (ne_of_none h g2)]; exact h
  refine ⟨⟨fun a u h => ?_, w.len, fun n c a h1 h2 l => ?_, w.inj, fun q hq => ?_, fun n c a q h1 h2 l hq => w.gne n c a q h1 h2 l (old q hq).1, nd2.2⟩, hF⟩
  · by_cases ha : a = p
    · subst ha
      rw [upd_same] at h
      cases h
      exact g1
    · rw [upd_ne ha] at h
      exact w.sub a u h
  · obtain ⟨k, f⟩ := w.ok n c a h1 h2 l
    refine ⟨CellOk.gh (cs := cs) (k.mono ⟨hF, fun _ _ h => h, rfl⟩), ?_⟩
    rw [upd_ne (w.gne n c a _ h1 h2 l hp)]
    exact f
  · obtain ⟨z1, z2⟩ := w.gok q (old q hq).1
    rw [upd_ne (old q hq).2]
    exact ⟨z1, z2⟩
end

/-! ### slots bear what the environment says -/
structure EnvR (K : PySem.W.Frag) (F : Hp) (cs : CS) (ρ : Rho) (σ : L2.St) : Prop where
  len : ρ.length = σ.length
  get : ∀ (i : Nat) (d : D), ρ[i]? = some (some d) → ∃ v, σ[i]? = some (some v) ∧ Rp K F cs d v
section
variable {K : PySem.W.Frag} {F F' : Hp} {cs cs' : CS} {ρ : Rho} {σ : L2.St}
theorem EnvR.monow (e : Exw F F' cs cs') (h : EnvR K F cs ρ σ) : EnvR K F' cs' ρ σ := ⟨h.len, fun i d hd => let ⟨v, h1, h2⟩ := h.get i d hd; ⟨v, h1, h2.monow e⟩⟩
theorem EnvR.mono (e : Ext F F' cs cs') (h : EnvR K F cs ρ σ) : EnvR K F' cs' ρ σ := ⟨h.len, fun i d hd => let ⟨v, h1, h2⟩ := h.get i d hd; ⟨v, h1, h2.mono e⟩⟩
theorem EnvR.set (h : EnvR K F cs ρ σ) {d : D} {v : V} (r : Rp K F cs d v) (i : Nat) : EnvR K F cs (ρ.set i (some d)) (σ.set i (some v)) := by
  refine ⟨by rw [List.length_set, List.length_set]; exact h.len, fun j e he => ?_⟩
  by_cases hj : i = j
  · subst hj
    have hi : i < ρ.length := by
      have := (List.getElem?_eq_some_iff.mp he).1
      rw [List.length_set] at this
      exact this
    rw [List.getElem?_set_self hi] at he
    cases he
    exact ⟨v, List.getElem?_set_self (by rw [← h.len]; exact hi), r⟩
  · rw [List.getElem?_set_ne hj] at he
    rw [List.getElem?_set_ne hj]
    exact h.get j e he
theorem EnvR.clear (h : EnvR K F cs ρ σ) (i : Nat) : EnvR K F cs (ρ.set i none) (σ.set i none) := by
  refine ⟨by rw [List.length_set, List.length_set]; exact h.len, fun j e he => ?_⟩
  by_cases hj : i = j
  · subst hj
    by_cases hi : i < ρ.length
    · rw [List.getElem?_set_self hi] at he
      cases he
    · rw [List.getElem?_eq_none (by rw [List.length_set]; omega)] at he
      cases he
  · rw [List.getElem?_set_ne hj] at he
    rw [List.getElem?_set_ne hj]
    exact h.get j e he
end

/-! ### what is wanted of a result -/
section
variable {α β γ δ : Type}
/-- the wish about what comes: Q of the value, W of an exception -/
def Out (K : PySem.W.Frag) (cl : Nat → Addr) (W : WX) (ρ : Rho) (rep : Hp → CS → α → β → Prop) (F : Hp) (cs : CS) (r : Res α) (Q : β → Hp → Prop) : Prop := match r with
  | .ok a st' => ∀ F' cs' b H', Ext F F' cs cs' → Wd K F' cs' st' H' → rep F' cs' a b → Q b H'
  | .ex c st' => ∀ F' cs' σ' H', Ext F F' cs cs' → Wd K F' cs' st' H' → EnvR K F' cs' ρ σ' → W (.ref (cl c)) none σ' H'
theorem Out.mono {K : PySem.W.Frag} {cl : Nat → Addr} {W : WX} {ρ : Rho} {rep : Hp → CS → α → β → Prop} {F F1 : Hp} {cs cs1 : CS} {r : Res α} {Q : β → Hp → Prop} (e : Ext F F1 cs cs1) (o : Out K cl W ρ rep F cs r Q) : Out K cl W ρ rep F1 cs1 r Q := by
  cases r with
  | ok a st' => exact fun F' cs' b H' e' w r => o F' cs' b H' (e.trans e') w r
  | ex c st' => exact fun F' cs' σ' H' e' w r => o F' cs' σ' H' (e.trans e') w r
/-- a reading by a function over data -/
def tG (K : PySem.W.Frag) (cl : Nat → Addr) (W : WX) (rep : Hp → CS → α → β → Prop) (m : Rho → M α) : L2.St → Hp → (β → Hp → Prop) → Prop := fun σ H Q =>
  ∃ F cs ρ st r, Wd K F cs st H ∧ EnvR K F cs ρ σ ∧ m ρ st = some r ∧ Out K cl W ρ rep F cs r Q
/-- the first part of a composed reading -/
theorem go {K : PySem.W.Frag} {cl : Nat → Addr} {W : WX} {ρ : Rho} {rep1 : Hp → CS → α → β → Prop} {rep2 : Hp → CS → γ → δ → Prop} {F : Hp} {cs : CS} {st : Sto} {H : Hp} {σ : L2.St} {m : Rho → M α} {f : α → M γ} {r : Res γ} {Q : δ → Hp → Prop} {Q' : β → Hp → Prop}
    (w : Wd K F cs st H) (en : EnvR K F cs ρ σ) (hm : ((m ρ).bind f) st = some r) (o : Out K cl W ρ rep2 F cs r Q)
    (k : ∀ F' cs' a b st' H', Ext F F' cs cs' → Wd K F' cs' st' H' → EnvR K F' cs' ρ σ → rep1 F' cs' a b → f a st' = some r → Out K cl W ρ rep2 F' cs' r Q → Q' b H') : tG K cl W rep1 m σ H Q' := by
  unfold M.bind at hm
  cases q : m ρ st with
  | none => rw [q] at hm; cases hm
  | some x =>
    rw [q] at hm
    cases x with
    | ok a st' => exact ⟨F, cs, ρ, st, _, w, en, q, fun F' cs' b H' e w' r' => k F' cs' a b st' H' e w' (en.mono e) r' hm (o.mono e)⟩
    | ex c st' =>
      have e : Res.ex c st' = r := Option.some.inj hm
      subst e
      exact ⟨F, cs, ρ, st, _, w, en, q, o⟩
end
abbrev repV (K : PySem.W.Frag) : Hp → CS → D → V → Prop := fun F cs d v => Rp K F cs d v
abbrev repB : Hp → CS → Bool → Bool → Prop := fun _ _ a b => a = b
abbrev repL (K : PySem.W.Frag) : Hp → CS → List D → List V → Prop := fun F cs d v => RpL K F cs d v
abbrev repU : Hp → CS → Unit → Unit → Prop := fun _ _ _ _ => True
abbrev tE (K : PySem.W.Frag) (cl : Nat → Addr) (W : WX) (m : Rho → M D) : TE := tG K cl W (repV K) m
abbrev tT (K : PySem.W.Frag) (cl : Nat → Addr) (W : WX) (m : Rho → M Bool) : TT := tG K cl W repB m
abbrev tA (K : PySem.W.Frag) (cl : Nat → Addr) (W : WX) (m : Rho → M (List D)) : TA := tG K cl W (repL K) m
/-- a value, straight -/
theorem Out.val {α β : Type} {K : PySem.W.Frag} {cl : Nat → Addr} {W : WX} {ρ : Rho} {rep : Hp → CS → α → β → Prop} {F : Hp} {cs : CS} {a : α} {b : β} {st : Sto} {H : Hp} {Q : β → Hp → Prop} (o : Out K cl W ρ rep F cs (.ok a st) Q)
    (w : Wd K F cs st H) (r : rep F cs a b) : Q b H := o F cs b H Ext.refl w r
theorem Out.new {K : PySem.W.Frag} {cl : Nat → Addr} {W : WX} {ρ : Rho} {F : Hp} {cs : CS} {d : D} {st : Sto} {H : Hp} {Q : VK} (o : Out K cl W ρ (repV K) F cs (.ok d st) Q)
    (w : Wd K F cs st H) {p : Addr} {u : HO} (hp : H p = none) (r : Rp K (upd F p u) cs d (.ref p)) : Q (.ref p) (upd H p u) :=
  o (upd F p u) cs (.ref p) (upd H p u) (w.new (o := u) hp).1 (w.new (o := u) hp).2 r
end MC

/-! MC, part 2: operators over data. -/
namespace MC
open PySem PySem.Spec PyProof.Rows L2

def LIM : Nat := 1000000
theorem LIM_le : LIM ≤ sizeLine := by rw [sizeLine_eq]; decide

/-- what stands behind a thing of the store -/
def D.see (d : D) (st : Sto) : Option D := match d with
  | .cell n => (match st[n]? with
    | some (.lst l) => some (.lst l)
    | some (.dic ks vs) => some (.dic ks vs)
    | _ => none)
  | d => some d
/-- a value seen: its top in the heap, its parts fixed -/
inductive Rs (K : PySem.W.Frag) (F : Hp) (H : Hp) (cs : CS) : D → V → Prop
  | non : Rs K F H cs .non .non
  | bl (b : Bool) : Rs K F H cs (.bl b) (.bl b)
  | int (i : Int) : Rs K F H cs (.int i) (.int i)
  | str (x : Str) : Rs K F H cs (.str x) (.str x)
  | tup {a : Addr} {vs : List V} {l : List D} : SqT K F a vs → RpL K F cs l vs → Rs K F H cs (.tup l) (.ref a)
  | lst {a : Addr} {vs : List V} {l : List D} : H a = some (.lst vs) → RpL K F cs l vs → Rs K F H cs (.lst l) (.ref a)
  | ro {a : Addr} {vs : List V} {l : List D} : SqL K F a vs → RpL K F cs l vs → Rs K F H cs (.ro l) (.ref a)
  | dic {a : Addr} {ks : List Key} {ws : List V} {vs : List D} : H a = some (.dK (ks.zip ws)) → ks.length = ws.length → RpL K F cs vs ws → Rs K F H cs (.dic ks vs) (.ref a)
  | ty (n : String) : Rs K F H cs (.ty n) (.ty n)
section
variable {K : PySem.W.Frag} {F H : Hp} {cs : CS} {st : Sto} {d e : D} {v : V}
theorem Wd.ext (w : Wd K F cs st H) : Ext F H cs cs := ⟨w.sub, fun _ _ h => h, rfl⟩
theorem see_ok (w : Wd K F cs st H) (r : Rp K F cs d v) (h : d.see st = some e) : Rs K F H cs e v := by
  cases r with
  | non => cases h; exact .non
  | bl b => cases h; exact .bl b
  | int i => cases h; exact .int i
  | str x => cases h; exact .str x
  | ty n => cases h; exact .ty n
  | tup s r => cases h; exact .tup s r
  | lst s r => cases h; exact .lst (w.sub _ _ s) r
  | ro s r => cases h; exact .ro s r
  | dic s z r => cases h; exact .dic (w.sub _ _ s) z r
  | @cell a n s =>
    unfold D.see at h
    simp only at h
    cases q : st[n]? with
    | none => rw [q] at h; cases h
    | some c =>
      rw [q] at h
      cases c with
      | dead => cases h
      | lst l =>
        cases h
        obtain ⟨⟨vs, e1, r⟩, _⟩ := w.ok n _ a q s rfl
        exact .lst e1 r
      | dic ks l =>
        cases h
        obtain ⟨⟨ws, e1, e2, r⟩, _⟩ := w.ok n _ a q s rfl
        exact .dic e1 e2 r
end

/-! ### operators of two values -/
def OpD (K : PySem.W.Frag) (cl : Nat → Addr) (f : D → D → M D) (r : R2) : Prop :=
  ∀ (W : WX) (ρ : Rho) (F : Hp) (cs : CS) (st : Sto) (H : Hp) (x y : D) (v u : V) (z : Res D) (Q : VK), Wd K F cs st H → Rp K F cs x v → Rp K F cs y u → f x y st = some z → Out K cl W ρ (repV K) F cs z Q → r v u H Q
def OpS (K : PySem.W.Frag) (cl : Nat → Addr) (f : D → D → M D) (r : R2) : Prop :=
  ∀ (W : WX) (ρ : Rho) (F : Hp) (cs : CS) (st : Sto) (H : Hp) (x y : D) (v u : V) (z : Res D) (Q : VK), Wd K F cs st H → Rs K F H cs x v → Rs K F H cs y u → f x y st = some z → Out K cl W ρ (repV K) F cs z Q → r v u H Q
def sees2 (f : D → D → M D) : D → D → M D := fun x y st => match x.see st, y.see st with
  | some a, some b => f a b st
  | _, _ => none
theorem OpS.d {K : PySem.W.Frag} {cl : Nat → Addr} {f : D → D → M D} {r : R2} (h : OpS K cl f r) : OpD K cl (sees2 f) r := by
  intro W ρ F cs st H x y v u z Q w rx ry hf o
  unfold sees2 at hf
  cases q : x.see st with
  | none => rw [q] at hf; cases hf
  | some a =>
    cases q2 : y.see st with
    | none => rw [q, q2] at hf; cases hf
    | some b =>
      rw [q, q2] at hf
      exact h W ρ F cs st H a b v u z Q w (see_ok w rx q) (see_ok w ry q2) hf o
theorem OpS.bad {K : PySem.W.Frag} {cl : Nat → Addr} {r : R2} : OpS K cl (fun _ _ => M.no) r := fun _ _ _ _ _ _ _ _ _ _ _ _ _ _ _ hf _ => by cases hf

/-- + -/
def addF : D → D → M D
  | .int i, .int j => M.ret (.int (i + j))
  | .str x, .str y => if x.length + y.length ≤ LIM then M.ret (.str (x ++ y)) else M.no
  | .tup xs, .tup ys => if xs.length + ys.length ≤ LIM then M.ret (.tup (xs ++ ys)) else M.no
  | .lst xs, .lst ys => if xs.length + ys.length ≤ LIM then M.ret (.lst (xs ++ ys)) else M.no
  | _, _ => M.no
def rAddD (K : PySem.W.Frag) : R2 := fun x y H Q => rI0 (fun i j => .int (i + j)) x y H Q ∨ (∃ i j, x = .str i ∧ y = .str j ∧ i.length + j.length ≤ sizeLine ∧ Q (.str (i ++ j)) H) ∨ rCatA K x y H Q ∨ rCat x y H Q
theorem some_ret {α : Type} {a : α} {st : Sto} {z : Res α} (h : M.ret a st = some z) : z = .ok a st := (Option.some.inj h).symm
theorem ite_ret {α : Type} {c : Prop} [Decidable c] {m : M α} {st : Sto} {z : Res α} (h : (if c then m else M.no) st = some z) : c ∧ m st = some z := by
  by_cases hc : c
  · rw [if_pos hc] at h; exact ⟨hc, h⟩
  · rw [if_neg hc] at h; cases h
section
variable {K : PySem.W.Frag} {cl : Nat → Addr}
theorem add_ok : OpS K cl addF (rAddD K) := by
  intro W ρ F cs st H x y v u z Q w rx ry hf o
  cases rx with
  | int i =>
    cases ry with
    | int j =>
      cases some_ret hf
      exact .inl ⟨i, j, rfl, rfl, o.val w (.int _)⟩
    | _ => cases hf
  | str a =>
    cases ry with
    | str b =>
      obtain ⟨hc, hf⟩ := ite_ret hf
      cases some_ret hf
      exact .inr (.inl ⟨a, b, rfl, rfl, Nat.le_trans hc LIM_le, o.val w (.str _)⟩)
    | _ => cases hf
  | @tup a vs l s r =>
    cases ry with
    | @tup b us m s' r' =>
      obtain ⟨hc, hf⟩ := ite_ret hf
      cases some_ret hf
      rw [r.length, r'.length] at hc
      refine .inr (.inr (.inl ⟨a, b, vs, us, rfl, rfl, w.ext.sqT s, w.ext.sqT s', Nat.le_trans hc LIM_le, fun hx => ?_, fun hx hy => ?_, fun hx hy p hp => ?_⟩))
      · subst hx
        cases r
        exact o.val w (.tup s' r')
      · subst hy
        cases r'
        rw [List.append_nil] at o
        exact o.val w (.tup s r)
      · refine o.new w hp (.tup (.inl (.inl upd_same)) ?_)
        exact (r.append r').mono (w.new hp).1
    | _ => cases hf
  | @lst a vs l s r =>
    cases ry with
    | @lst b us m s' r' =>
      obtain ⟨hc, hf⟩ := ite_ret hf
      cases some_ret hf
      rw [r.length, r'.length] at hc
      refine .inr (.inr (.inr ⟨a, b, vs, us, rfl, rfl, s, s', Nat.le_trans hc LIM_le, fun p hp => ?_⟩))
      exact o.new w hp (.lst upd_same ((r.append r').mono (w.new hp).1))
    | _ => cases hf
  | _ => cases hf

/-! ### whole numbers -/
def intF (c : Int → Int → Bool) (g : Int → Int → Int) : D → D → M D
  | .int i, .int j => if c i j = true then M.ret (.int (g i j)) else M.no
  | _, _ => M.no
theorem int_ok {c : Int → Int → Bool} {P : Int → Int → Prop} {g : Int → Int → Int} (h : ∀ i j, c i j = true → P i j) : OpS K cl (intF c g) (rI P fun i j => .int (g i j)) := by
  intro W ρ F cs st H x y v u z Q w rx ry hf o
  cases rx with
  | int i =>
    cases ry with
    | int j =>
      obtain ⟨hc, hf⟩ := ite_ret hf
      cases some_ret hf
      exact ⟨i, j, rfl, rfl, h i j hc, o.val w (.int _)⟩
    | _ => cases hf
  | _ => cases hf
def cYes : Int → Int → Bool := fun _ _ => true
def cMul : Int → Int → Bool := fun i j => decide (i.natAbs < 2 ^ 64) || decide (j.natAbs < 2 ^ 64)
def cMod : Int → Int → Bool := fun _ j => decide (0 < j)
def cDiv : Int → Int → Bool := fun _ j => decide (0 < j) && decide (j < 1073741824)
def cPow : Int → Int → Bool := fun i j => decide (0 ≤ j) && (decide (j ≤ 1000000) && decide (i.natAbs < 2 ^ 64))
def cShr : Int → Int → Bool := fun _ j => decide (0 ≤ j)
theorem cMul_ok (i j : Int) (h : cMul i j = true) : CMul i j := by
  unfold cMul at h
  rw [Bool.or_eq_true, decide_eq_true_eq, decide_eq_true_eq] at h
  unfold CMul
  omega
theorem cDiv_ok (i j : Int) (h : cDiv i j = true) : CDiv i j := by
  unfold cDiv at h
  rw [Bool.and_eq_true, decide_eq_true_eq, decide_eq_true_eq] at h
  exact h
theorem cPow_ok (i j : Int) (h : cPow i j = true) : CPow i j := by
  unfold cPow at h
  rw [Bool.and_eq_true, Bool.and_eq_true, decide_eq_true_eq, decide_eq_true_eq, decide_eq_true_eq] at h
  exact h
/-- * : numbers; a list, a tuple so many times -/
def mulF : D → D → M D
  | .int i, .int j => intF cMul (fun i j => i * j) (.int i) (.int j)
  | .lst l, .int k => if 0 ≤ k ∧ k ≤ 1000 ∧ l.length ≤ 1000 then M.ret (.lst (List.replicate k.toNat l).flatten) else M.no
  | .tup l, .int k => if 2 ≤ k ∧ k ≤ 1000 ∧ 1 ≤ l.length ∧ l.length ≤ 1000 then M.ret (.tup (List.replicate k.toNat l).flatten) else M.no
  | _, _ => M.no
def rMulD (K : PySem.W.Frag) : R2 := fun x y H Q => rI CMul (fun i j => .int (i * j)) x y H Q ∨ rRep x y H Q ∨ rRepT K x y H Q
theorem RpL.rep {F : Hp} {cs : CS} {l : List D} {vs : List V} (h : RpL K F cs l vs) : ∀ k : Nat, RpL K F cs (List.replicate k l).flatten (List.replicate k vs).flatten
  | 0 => .nil
  | k + 1 => by
    rw [List.replicate_succ, List.replicate_succ, List.flatten_cons, List.flatten_cons]
    exact RpL.append h (RpL.rep h k)
theorem mul_ok : OpS K cl mulF (rMulD K) := by
  intro W ρ F cs st H x y v u z Q w rx ry hf o
  cases rx with
  | int i =>
    cases ry with
    | int j => exact .inl (int_ok cMul_ok W ρ F cs st H _ _ _ _ z Q w (.int i) (.int j) hf o)
    | _ => cases hf
  | @lst a vs l s r =>
    cases ry with
    | int k =>
      obtain ⟨⟨h1, h2, h3⟩, hf⟩ := ite_ret hf
      cases some_ret hf
      rw [r.length] at h3
      refine .inr (.inl ⟨a, k, vs, rfl, rfl, s, by omega, by omega, ?_, fun p hp => o.new w hp (.lst upd_same ((r.rep _).mono (w.new hp).1))⟩)
      have h4 : vs.length * k.toNat ≤ 1000 * 1000 := Nat.mul_le_mul h3 (by omega)
      exact Nat.le_trans h4 LIM_le
    | _ => cases hf
  | @tup a vs l s r =>
    cases ry with
    | int k =>
      obtain ⟨⟨h1, h2, h3, h4⟩, hf⟩ := ite_ret hf
      cases some_ret hf
      rw [r.length] at h3 h4
      exact .inr (.inr ⟨a, k, vs, rfl, rfl, w.ext.sqT s, (fun z => by rw [z] at h3; simp at h3), h1, h2, h4, fun p hp => o.new w hp (.tup (.inl (.inl upd_same)) ((r.rep _).mono (w.new hp).1))⟩)
    | _ => cases hf
  | _ => cases hf
/-- the operators of two values: what is told -/
def binF : Operator → D → D → M D
  | .Add => sees2 addF
  | .Sub => sees2 (intF cYes fun i j => i - j)
  | .Mult => sees2 mulF
  | .Mod => sees2 (intF cMod fun i j => i % j)
  | .FloorDiv => sees2 (intF cDiv fun i j => i / j)
  | .Pow => sees2 (intF cPow fun i j => i ^ j.toNat)
  | .LShift => sees2 (intF cPow fun i j => i * 2 ^ j.toNat)
  | .RShift => sees2 (intF cShr fun i j => i / 2 ^ j.toNat)
  | .BitAnd => sees2 (intF cYes Builtin.bitAnd)
  | .BitOr => sees2 (intF cYes Builtin.bitOr)
  | .BitXor => sees2 (intF cYes Builtin.bitXor)
  | _ => fun _ _ => M.no
theorem OpS.imp {f : D → D → M D} {r r' : R2} (h : OpS K cl f r) (hr : ∀ x y H Q, r x y H Q → r' x y H Q) : OpS K cl f r' := fun W ρ F cs st H x y v u z Q w rx ry hf o => hr _ _ _ _ (h W ρ F cs st H x y v u z Q w rx ry hf o)
theorem rI_rI0 {P : Int → Int → Prop} {g : Int → Int → V} (x y : V) (H : Hp) (Q : VK) (h : rI P g x y H Q) : rI0 g x y H Q := let ⟨i, j, a, b, _, q⟩ := h; ⟨i, j, a, b, q⟩
theorem bin_ok {X : Cx} : ∀ op : Operator, ∃ r, OpR X (binaryOp op) r ∧ OpD X.K cl (binF op) r
  | .Add => ⟨_, OpR.or op_add (OpR.or op_add_str (OpR.or op_catA op_cat)), add_ok.d⟩
  | .Sub => ⟨_, op_sub, ((int_ok (P := fun _ _ => True) fun _ _ _ => trivial).imp rI_rI0).d⟩
  | .Mult => ⟨_, OpR.or op_mul (OpR.or op_rep op_repT), mul_ok.d⟩
  | .Mod => ⟨_, op_mod, (int_ok fun _ _ h => of_decide_eq_true h).d⟩
  | .FloorDiv => ⟨_, op_fdiv, (int_ok cDiv_ok).d⟩
  | .Pow => ⟨_, op_pow, (int_ok cPow_ok).d⟩
  | .LShift => ⟨_, op_shl, (int_ok cPow_ok).d⟩
  | .RShift => ⟨_, op_shr, (int_ok fun _ _ h => of_decide_eq_true h).d⟩
  | .BitAnd => ⟨_, op_and, ((int_ok (P := fun _ _ => True) fun _ _ _ => trivial).imp rI_rI0).d⟩
  | .BitOr => ⟨_, op_or, ((int_ok (P := fun _ _ => True) fun _ _ _ => trivial).imp rI_rI0).d⟩
  | .BitXor => ⟨_, op_xor, ((int_ok (P := fun _ _ => True) fun _ _ _ => trivial).imp rI_rI0).d⟩
  | .MatMult => ⟨fun _ _ _ _ => False, fun _ _ _ _ _ _ _ _ _ _ _ _ h => h.elim, fun _ _ _ _ _ _ _ _ _ _ _ _ _ _ _ hf _ => by cases hf⟩
  | .Div => ⟨fun _ _ _ _ => False, fun _ _ _ _ _ _ _ _ _ _ _ _ h => h.elim, fun _ _ _ _ _ _ _ _ _ _ _ _ _ _ _ hf _ => by cases hf⟩

/-! ### == -/
def keyPy : Key → PyData
  | .inl i => .int i
  | .inr x => .str x
mutual
def D.py : D → PyData
  | .non => .none
  | .bl b => .bool b
  | .int i => .int i
  | .str x => .str x
  | .tup l => .tuple (D.pyL l)
  | .lst l => .list (D.pyL l)
  | .ro l => .list (D.pyL l)
  | .dic ks vs => .dict ((ks.map keyPy).zip (D.pyL vs))
  | .cell _ => .none
  | .ty _ => .none
def D.pyL : List D → List PyData
  | [] => []
  | d :: ds => d.py :: D.pyL ds
end
mutual
/-- no thing of the store within, no dict -/
def D.flat : D → Bool
  | .cell _ => false
  | .ty _ => false
  | .dic _ _ => false
  | .tup l => D.flatL l
  | .lst l => D.flatL l
  | .ro l => D.flatL l
  | _ => true
def D.flatL : List D → Bool
  | [] => true
  | d :: ds => d.flat && D.flatL ds
end
mutual
theorem dp_ok {F H : Hp} {cs : CS} (e : Ext F H cs cs) : ∀ {d : D} {v : V}, Rp K F cs d v → d.flat = true → Dp K H v d.py
  | _, _, .non, _ => by unfold D.py; exact .non
  | _, _, .bl b, _ => by unfold D.py; exact .bl b
  | _, _, .int i, _ => by unfold D.py; exact .int i
  | _, _, .str x, _ => by unfold D.py; exact .str x
  | _, _, .tup s r, h => by
    unfold D.flat at h
    unfold D.py
    exact .tup (e.sqT s) (dpL_ok e r h)
  | _, _, .lst s r, h => by
    unfold D.flat at h
    unfold D.py
    exact .lst (.inl (.inl (e.hp _ _ s))) (dpL_ok e r h)
  | _, _, .ro s r, h => by
    unfold D.flat at h
    unfold D.py
    exact .lst (e.sqL s) (dpL_ok e r h)
  | _, _, .dic s z r, h => by unfold D.flat at h; cases h
  | _, _, .cell s, h => by unfold D.flat at h; cases h
  | _, _, .ty n, h => by unfold D.flat at h; cases h
theorem dpL_ok {F H : Hp} {cs : CS} (e : Ext F H cs cs) : ∀ {d : List D} {v : List V}, RpL K F cs d v → D.flatL d = true → DpAll K H v (D.pyL d)
  | _, _, .nil, _ => by unfold D.pyL; exact .nil
  | _, _, .cons r s, h => by
    unfold D.flatL at h
    rw [Bool.and_eq_true] at h
    unfold D.pyL
    exact .cons (dp_ok e r h.1) (dpL_ok e s h.2)
end
theorem ds_ok {F H : Hp} {cs : CS} (e : Ext F H cs cs) {d : D} {v : V} (r : Rs K F H cs d v) (h : d.flat = true) : Dp K H v d.py := by
  cases r with
  | non => unfold D.py; exact .non
  | bl b => unfold D.py; exact .bl b
  | int i => unfold D.py; exact .int i
  | str x => unfold D.py; exact .str x
  | tup s r =>
    unfold D.flat at h
    unfold D.py
    exact .tup (e.sqT s) (dpL_ok e r h)
  | lst s r =>
    unfold D.flat at h
    unfold D.py
    exact .lst (.inl (.inl s)) (dpL_ok e r h)
  | ro s r =>
    unfold D.flat at h
    unfold D.py
    exact .lst (e.sqL s) (dpL_ok e r h)
  | dic s z r => unfold D.flat at h; cases h
  | ty n => unfold D.flat at h; cases h
/-- data that == may be asked of -/
def D.eqable (d : D) : Bool := d.flat && SeqAt.shaped d.py
def eqB : D → D → Option Bool
  | .str a, .str b => some (decide (a = b))
  | .int a, .int b => some (decide (a = b))
  | .bl a, .bl b => some (decide (a = b))
  | .tup l, .tup [] => some l.isEmpty
  | x, y => if (x.eqable && y.eqable) = true then some (PyData.eqv x.py y.py) else none
/-- a tuple against the empty one -/
def rEqT0 (K : PySem.W.Frag) : R2 := fun x y H Q => ∃ a b xs, x = .ref a ∧ y = .ref b ∧ SqT K H a xs ∧ SqT K H b [] ∧ Q (.bl xs.isEmpty) H
theorem op_eqT0 {X : Cx} (hu : X.A.units < cLine) : OpR X (compareOp .Eq) (rEqT0 X.K) := by
  intro pins s σ H x y v u Q I rx ry h
  obtain ⟨a, b, xs, rfl, rfl, ha, hb, q⟩ := h
  cases rx
  cases ry
  obtain ⟨its, r1, p1, _⟩ := I.tuple ha
  obtain ⟨its2, r2, p2, _⟩ := I.tuple hb
  cases r2
  refine SeqAt.eq_tupleAt (e := fun _ => true) p1 p2 hu (fun j _ h2 => absurd h2 (by simp)) ⟨.bl _, H, I, ?_, q⟩
  have hl := r1.length
  cases its with
  | nil =>
    have : xs = [] := List.eq_nil_of_length_eq_zero hl
    subst this
    rfl
  | cons i r =>
    cases xs with
    | nil => cases hl
    | cons x xs => rfl
def rEqAll (K : PySem.W.Frag) : R2 := fun x y H Q => rEq x y H Q ∨ rEqD K x y H Q ∨ rEqT0 K x y H Q
def eqF : D → D → M D := fun x y => M.opt ((eqB x y).map D.bl)
theorem eq_ok : OpS K cl eqF (rEqAll K) := by
  intro W ρ F cs st H x y v u z Q w rx ry hf o
  unfold eqF at hf
  cases e : eqB x y with
  | none => rw [e] at hf; cases hf
  | some b =>
    rw [e] at hf
    cases some_ret hf
    have gen : (x.eqable && y.eqable) = true → b = PyData.eqv x.py y.py → rEqAll K v u H Q := fun he hb => by
      rw [Bool.and_eq_true] at he
      unfold D.eqable at he
      rw [Bool.and_eq_true, Bool.and_eq_true] at he
      rw [hb] at o
      exact .inr (.inl ⟨x.py, y.py, ds_ok w.ext rx he.1.1, ds_ok w.ext ry he.2.1, he.1.2, he.2.2, o.val w (.bl _)⟩)
    unfold eqB at e
    split at e
    · cases rx
      cases ry
      cases e
      refine .inl ⟨rfl, ?_⟩
      rw [dec_str, Bool.beq_eq_decide_eq]
      exact o.val w (.bl _)
    · cases rx
      cases ry
      cases e
      refine .inl ⟨rfl, ?_⟩
      rw [dec_int, Bool.beq_eq_decide_eq]
      exact o.val w (.bl _)
    · cases rx
      cases ry
      cases e
      refine .inl ⟨rfl, ?_⟩
      rw [dec_bl, Bool.beq_eq_decide_eq]
      exact o.val w (.bl _)
    · rename_i l
      cases e
      cases rx with
      | @tup a vs _ s r =>
        cases ry with
        | @tup b us _ s' r' =>
          cases r'
          refine .inr (.inr ⟨a, b, vs, rfl, rfl, w.ext.sqT s, w.ext.sqT s', ?_⟩)
          have hl := r.length
          have he : l.isEmpty = vs.isEmpty := by
            cases l with
            | nil => cases r; rfl
            | cons _ _ => cases r; rfl
          rw [← he]
          exact o.val w (.bl _)
    · by_cases hc : (x.eqable && y.eqable) = true
      · rw [if_pos hc] at e
        cases e
        exact gen hc rfl
      · rw [if_neg hc] at e
        cases e
end
end MC

/-! MC, part 3: the other comparisons, truth. -/
namespace MC
open PySem PySem.Spec PyProof.Rows L2
section
variable {K : PySem.W.Frag} {cl : Nat → Addr}
theorem optB {f : Option Bool} {st : Sto} {z : Res D} (h : M.opt (f.map D.bl) st = some z) : ∃ b, f = some b ∧ z = .ok (.bl b) st := by
  cases f with
  | none => cases h
  | some b => exact ⟨b, rfl, some_ret h⟩
/-- != -/
def neB : D → D → Option Bool
  | .str a, .str b => some (!decide (a = b))
  | .int a, .int b => some (!decide (a = b))
  | .bl a, .bl b => some (!decide (a = b))
  | x, y => if (x.eqable && y.eqable) = true then some (!PyData.eqv x.py y.py) else none
def rNeAll (K : PySem.W.Frag) : R2 := fun x y H Q => rNe x y H Q ∨ rNeD K x y H Q
def neF : D → D → M D := fun x y => M.opt ((neB x y).map D.bl)
theorem ne_ok : OpS K cl neF (rNeAll K) := by
  intro W ρ F cs st H x y v u z Q w rx ry hf o
  obtain ⟨b, e, rfl⟩ := optB hf
  have gen : (x.eqable && y.eqable) = true → b = (!PyData.eqv x.py y.py) → rNeAll K v u H Q := fun he hb => by
    rw [Bool.and_eq_true] at he
    unfold D.eqable at he
    rw [Bool.and_eq_true, Bool.and_eq_true] at he
    rw [hb] at o
    exact .inr ⟨x.py, y.py, ds_ok w.ext rx he.1.1, ds_ok w.ext ry he.2.1, he.1.2, he.2.2, o.val w (.bl _)⟩
  unfold neB at e
  split at e
  · cases rx
    cases ry
    cases e
    refine .inl ⟨rfl, ?_⟩
    rw [dec_str, Bool.beq_eq_decide_eq]
    exact o.val w (.bl _)
  · cases rx
    cases ry
    cases e
    refine .inl ⟨rfl, ?_⟩
    rw [dec_int, Bool.beq_eq_decide_eq]
    exact o.val w (.bl _)
  · cases rx
    cases ry
    cases e
    refine .inl ⟨rfl, ?_⟩
    rw [dec_bl, Bool.beq_eq_decide_eq]
    exact o.val w (.bl _)
  · by_cases hc : (x.eqable && y.eqable) = true
    · rw [if_pos hc] at e
      cases e
      exact gen hc rfl
    · rw [if_neg hc] at e
      cases e
/-- <, <=, >, >= of numbers, of texts -/
def ordB (f : Int → Int → Bool) (g : List Nat → List Nat → Bool) : D → D → Option Bool
  | .int a, .int b => some (f a b)
  | .str a, .str b => some (g a.cps.toList b.cps.toList)
  | _, _ => none
def ordF (f : Int → Int → Bool) (g : List Nat → List Nat → Bool) : D → D → M D := fun x y => M.opt ((ordB f g x y).map D.bl)
def rOrd (f : Int → Int → Bool) (g : List Nat → List Nat → Bool) : R2 := fun x y H Q => rI0 (fun i j => .bl (f i j)) x y H Q ∨ (∃ i j, x = .str i ∧ y = .str j ∧ Q (.bl (g i.cps.toList j.cps.toList)) H)
theorem ord_ok {f : Int → Int → Bool} {g : List Nat → List Nat → Bool} : OpS K cl (ordF f g) (rOrd f g) := by
  intro W ρ F cs st H x y v u z Q w rx ry hf o
  obtain ⟨b, e, rfl⟩ := optB hf
  unfold ordB at e
  split at e
  · cases rx
    cases ry
    cases e
    exact .inl ⟨_, _, rfl, rfl, o.val w (.bl _)⟩
  · cases rx
    cases ry
    cases e
    exact .inr ⟨_, _, rfl, rfl, o.val w (.bl _)⟩
  · cases e

/-! ### in -/
def D.scal : D → Bool
  | .non => true
  | .bl _ => true
  | .int _ => true
  | .str _ => true
  | _ => false
theorem scal_flat {F : Hp} {cs : CS} {d : D} {v : V} (r : Rp K F cs d v) (h : d.scal = true) : flatV v = true := by
  cases r <;> first | rfl | cases h
theorem scals_flat {F : Hp} {cs : CS} : ∀ {l : List D} {vs : List V}, RpL K F cs l vs → l.all D.scal = true → vs.all flatV = true
  | _, _, .nil, _ => rfl
  | _, _, .cons r s, h => by
    rw [List.all_cons, Bool.and_eq_true] at h
    rw [List.all_cons, scal_flat r h.1, scals_flat s h.2]
    rfl
theorem eqV_py {F : Hp} {cs : CS} {d e : D} {v u : V} (r : Rp K F cs d v) (q : Rp K F cs e u) (h : d.scal = true) (h2 : e.scal = true) : eqV v u = PyData.eqv d.py e.py := by
  cases r with
  | non => cases q <;> first | (unfold D.py; rfl) | cases h2
  | bl a => cases q <;> first | (unfold D.py; rfl) | cases h2
  | int a => cases q <;> first | (unfold D.py; rfl) | cases h2
  | str a => cases q <;> first | (unfold D.py; rfl) | cases h2
  | _ => cases h
theorem inV_py {F : Hp} {cs : CS} {e : D} {u : V} (q : Rp K F cs e u) (h2 : e.scal = true) : ∀ {l : List D} {vs : List V}, RpL K F cs l vs → l.all D.scal = true → inV u vs = l.any fun z => PyData.eqv z.py e.py
  | _, _, .nil, _ => rfl
  | _, _, .cons r s, h => by
    rw [List.all_cons, Bool.and_eq_true] at h
    unfold inV
    rw [List.any_cons, List.any_cons, eqV_py r q h.1 h2]
    congr 1
    exact inV_py q h2 s h.2
theorem pyL_map : ∀ l : List D, D.pyL l = l.map D.py
  | [] => rfl
  | d :: l => by
    unfold D.pyL
    rw [pyL_map l]
    rfl
def inB : D → D → Option Bool := fun x y => match y with
  | .str z => (match x with
    | .str a => if a.cps.size = 1 then some (decide (a.cps.getD 0 0 ∈ z.cps.toList)) else none
    | _ => none)
  | .tup l => if ((x.scal && l.all D.scal) || (x.eqable && (D.lst l).eqable)) = true then some (l.any fun z => PyData.eqv z.py x.py) else none
  | .lst l => if ((x.scal && l.all D.scal) || (x.eqable && (D.lst l).eqable)) = true then some (l.any fun z => PyData.eqv z.py x.py) else none
  | .ro l => if ((x.scal && l.all D.scal) || (x.eqable && (D.lst l).eqable)) = true then some (l.any fun z => PyData.eqv z.py x.py) else none
  | _ => none
def inF (neg : Bool) : D → D → M D := fun x y => M.opt ((inB x y).map fun b => D.bl (if neg then !b else b))
/-- a data of any depth among a list's, a tuple's -/
def rInX (K : PySem.W.Frag) (neg : Bool) : R2 := fun x y H Q => ∃ d ds, Dp K H x d ∧ (Dp K H y (.list ds) ∨ Dp K H y (.tuple ds)) ∧ SeqAt.shaped d = true ∧ PyData.canLayAll0 ds = true ∧ Q (.bl (if neg then !(ds.any fun z => PyData.eqv z d) else ds.any fun z => PyData.eqv z d)) H
theorem op_inX {X : Cx} (hu : X.A.units + 65 < cLine) : OpR X (compareOp .In) (rInX X.K false) := by
  intro pins s σ H x y v u Q I rx ry h
  obtain ⟨d, ds, hd, he, sd, se, q⟩ := h
  obtain ⟨as, r1⟩ := Dp.reads I d x v hd rx
  rcases he with he | he
  · obtain ⟨bs, r2⟩ := Dp.reads I (.list ds) y u he ry
    exact SeqAt.in_list_reads r2 r1 se (SeqAt.canLay_of_shaped sd) (room_in_shaped sd hu) ⟨.bl _, H, I, rfl, q⟩
  · obtain ⟨bs, r2⟩ := Dp.reads I (.tuple ds) y u he ry
    exact SeqAt.in_tuple_reads r2 r1 se (SeqAt.canLay_of_shaped sd) (room_in_shaped sd hu) ⟨.bl _, H, I, rfl, q⟩
theorem op_notInX {X : Cx} (hu : X.A.units + 65 < cLine) : OpR X (compareOp .NotIn) (rInX X.K true) := by
  intro pins s σ H x y v u Q I rx ry h
  obtain ⟨d, ds, hd, he, sd, se, q⟩ := h
  obtain ⟨as, r1⟩ := Dp.reads I d x v hd rx
  rcases he with he | he
  · obtain ⟨bs, r2⟩ := Dp.reads I (.list ds) y u he ry
    exact SeqAt.notIn_list_reads r2 r1 se (SeqAt.canLay_of_shaped sd) (room_in_shaped sd hu) ⟨.bl _, H, I, rfl, q⟩
  · obtain ⟨bs, r2⟩ := Dp.reads I (.tuple ds) y u he ry
    exact SeqAt.notIn_tuple_reads r2 r1 se (SeqAt.canLay_of_shaped sd) (room_in_shaped sd hu) ⟨.bl _, H, I, rfl, q⟩
def rInSign (neg : Bool) : R2 := fun x y H Q => ∃ (c : Nat) (z : Str), x = .str ⟨#[c]⟩ ∧ y = .str z ∧ Q (.bl (if neg then !decide (c ∈ z.cps.toList) else decide (c ∈ z.cps.toList))) H
def rInAll (K : PySem.W.Frag) (neg : Bool) : R2 := fun x y H Q => rInSign neg x y H Q ∨ rIn K neg x y H Q ∨ rInX K neg x y H Q
theorem one_sign {a : Str} (h : a.cps.size = 1) : a = ⟨#[a.cps.getD 0 0]⟩ := by
  obtain ⟨⟨l⟩⟩ := a
  cases l with
  | nil => cases h
  | cons c r =>
    cases r with
    | nil => rfl
    | cons c' r => simp at h
theorem in_ok (neg : Bool) : OpS K cl (inF neg) (rInAll K neg) := by
  intro W ρ F cs st H x y v u z Q w rx ry hf o
  unfold inF at hf
  cases e : inB x y with
  | none => rw [e] at hf; cases hf
  | some b =>
    rw [e] at hf
    cases some_ret hf
    have seq : ∀ (l : List D) (vs : List V) (a : Addr), u = .ref a → (SqL K H a vs ∨ SqT K H a vs) → RpL K F cs l vs →
        (if ((x.scal && l.all D.scal) || (x.eqable && (D.lst l).eqable)) = true then some (l.any fun z => PyData.eqv z.py x.py) else none) = some b → rInAll K neg v u H Q := fun l vs a hu hs r he => by
      subst hu
      by_cases hc : ((x.scal && l.all D.scal) || (x.eqable && (D.lst l).eqable)) = true
      · rw [if_pos hc] at he
        cases he
        rw [Bool.or_eq_true, Bool.and_eq_true, Bool.and_eq_true] at hc
        rcases hc with ⟨h1, h2⟩ | ⟨h1, h2⟩
        · have rx' : Rp K F cs x v := by
            cases rx <;> first | exact .non | exact .bl _ | exact .int _ | exact .str _ | cases h1
          refine .inr (.inl ⟨a, vs, rfl, hs, scal_flat rx' h1, scals_flat r h2, ?_⟩)
          rw [inV_py rx' h1 r h2]
          exact o.val w (.bl _)
        · unfold D.eqable at h1 h2
          rw [Bool.and_eq_true] at h1 h2
          have hl : PyData.canLayAll0 (D.pyL l) = true := by
            have := SeqAt.canLay_of_shaped h2.2
            unfold D.py at this
            simpa [PyData.canLay0] using this
          have hfl : D.flatL l = true := by
            have := h2.1
            unfold D.flat at this
            exact this
          refine .inr (.inr ⟨x.py, D.pyL l, ds_ok w.ext rx h1.1, ?_, h1.2, hl, ?_⟩)
          · rcases hs with hs | hs
            · exact .inl (.lst hs (dpL_ok w.ext r hfl))
            · exact .inr (.tup hs (dpL_ok w.ext r hfl))
          · rw [pyL_map, List.any_map]
            exact o.val w (.bl _)
      · rw [if_neg hc] at he
        cases he
    unfold inB at e
    cases ry with
    | str zz =>
      cases rx with
      | str a =>
        simp only at e
        by_cases hc : a.cps.size = 1
        · rw [if_pos hc] at e
          cases e
          exact .inl ⟨a.cps.getD 0 0, zz, by rw [← one_sign hc], rfl, o.val w (.bl _)⟩
        · rw [if_neg hc] at e
          cases e
      | _ => cases e
    | @tup a vs l s r => exact seq l vs a rfl (.inr (w.ext.sqT s)) r e
    | @lst a vs l s r => exact seq l vs a rfl (.inl (.inl (.inl s))) r e
    | @ro a vs l s r => exact seq l vs a rfl (.inl (w.ext.sqL s)) r e
    | _ => cases e
/-! ### is -/
def isB : D → D → Option Bool
  | .bl a, .bl b => some (decide (a = b))
  | .non, .non => some true
  | .cell _, .non => some false
  | _, .non => some false
  | _, _ => none
def isF (neg : Bool) : D → D → M D := fun x y => M.opt ((isB x y).map fun b => D.bl (if neg then !b else b))
def rIsAll (neg : Bool) : R2 := fun x y H Q => (y = .non ∧ Q (.bl (if neg then !decide (x = .non) else decide (x = .non))) H) ∨ (∃ a b, x = .bl a ∧ y = .bl b ∧ Q (.bl (if neg then !decide (a = b) else decide (a = b))) H)
theorem is_ok (neg : Bool) : OpD K cl (isF neg) (rIsAll neg) := by
  intro W ρ F cs st H x y v u z Q w rx ry hf o
  unfold isF at hf
  cases e : isB x y with
  | none => rw [e] at hf; cases hf
  | some b =>
    rw [e] at hf
    cases some_ret hf
    unfold isB at e
    split at e
    · cases rx
      cases ry
      cases e
      exact .inr ⟨_, _, rfl, rfl, o.val w (.bl _)⟩
    · cases rx
      cases ry
      cases e
      exact .inl ⟨rfl, o.val w (.bl _)⟩
    · cases rx
      cases ry
      cases e
      exact .inl ⟨rfl, o.val w (.bl _)⟩
    · rename_i hn _
      cases ry
      cases e
      have hv : decide (v = V.non) = false := decide_eq_false fun z => by
        subst z
        cases rx
        exact hn rfl
      refine .inl ⟨rfl, ?_⟩
      rw [hv]
      exact o.val w (.bl _)
    · cases e
theorem op_isAll {X : Cx} : OpR X (compareOp .Is) (rIsAll false) := by
  intro pins s σ H x y v u Q I rx ry h
  rcases h with h | ⟨a, b, rfl, rfl, q⟩
  · exact op_isN pins s σ H x y v u Q I rx ry h
  · cases rx
    cases ry
    exact is_bool (fin_bl I q (by rw [Bool.beq_eq_decide_eq]; rfl))
theorem op_isNotAll {X : Cx} : OpR X (compareOp .IsNot) (rIsAll true) := by
  intro pins s σ H x y v u Q I rx ry h
  rcases h with h | ⟨a, b, rfl, rfl, q⟩
  · exact op_notN pins s σ H x y v u Q I rx ry h
  · cases rx
    cases ry
    exact isnot_bool (fin_bl I q (by rw [bne, Bool.beq_eq_decide_eq]; rfl))
end
/-- the comparisons: what is told -/
def cmpF : CmpOp → D → D → M D
  | .Eq => sees2 eqF
  | .NotEq => sees2 neF
  | .Lt => sees2 (ordF (fun a b => decide (a < b)) fun a b => decide (a < b))
  | .LtE => sees2 (ordF (fun a b => decide (a ≤ b)) fun a b => !decide (b < a))
  | .Gt => sees2 (ordF (fun a b => decide (b < a)) fun a b => decide (b < a))
  | .GtE => sees2 (ordF (fun a b => decide (b ≤ a)) fun a b => !decide (a < b))
  | .Is => isF false
  | .IsNot => isF true
  | .In => sees2 (inF false)
  | .NotIn => sees2 (inF true)
theorem cmp_ok {X : Cx} {cl : Nat → Addr} (hu : X.A.units + 65 < cLine) : ∀ op : CmpOp, ∃ r, OpR X (compareOp op) r ∧ OpD X.K cl (cmpF op) r
  | .Eq => ⟨_, OpR.or op_eq (OpR.or (op_eqD (by omega)) (op_eqT0 (by omega))), eq_ok.d⟩
  | .NotEq => ⟨_, OpR.or op_ne (op_neD (by omega)), ne_ok.d⟩
  | .Lt => ⟨_, OpR.or op_lt op_lt_str, ord_ok.d⟩
  | .LtE => ⟨_, OpR.or op_le op_le_str, ord_ok.d⟩
  | .Gt => ⟨_, OpR.or op_gt op_gt_str, ord_ok.d⟩
  | .GtE => ⟨_, OpR.or op_ge op_ge_str, ord_ok.d⟩
  | .Is => ⟨_, op_isAll, is_ok false⟩
  | .IsNot => ⟨_, op_isNotAll, is_ok true⟩
  | .In => ⟨_, OpR.or op_in_sign (OpR.or op_in_seq (op_inX hu)), (in_ok false).d⟩
  | .NotIn => ⟨_, OpR.or op_notIn_sign (OpR.or op_notIn_seq (op_notInX hu)), (in_ok true).d⟩

/-! ### truth -/
def truB : D → Option Bool
  | .non => some false
  | .bl b => some b
  | .int i => some (i != 0)
  | .str x => if x.length ≤ LIM then some ((x.length : Int) != 0) else none
  | .tup l => some (!l.isEmpty)
  | .lst l => some (!l.isEmpty)
  | .ro l => some (!l.isEmpty)
  | _ => none
def truF : D → M Bool := fun d st => match d.see st with
  | some e => M.opt (truB e) st
  | none => none
theorem RpL.isEmpty {K : PySem.W.Frag} {F : Hp} {cs : CS} {l : List D} {vs : List V} (r : RpL K F cs l vs) : l.isEmpty = vs.isEmpty := by
  cases r <;> rfl
theorem tru_data {K : PySem.W.Frag} {F H : Hp} {cs : CS} {st : Sto} {d : D} {v : V} {z : Res Bool} (w : Wd K F cs st H) (r : Rp K F cs d v) (h : truF d st = some z) : ∃ b, z = .ok b st ∧ TruV K v H b := by
  unfold truF at h
  cases e : d.see st with
  | none => rw [e] at h; cases h
  | some x =>
    rw [e] at h
    simp only at h
    cases q : truB x with
    | none => rw [q] at h; cases h
    | some b =>
      rw [q] at h
      refine ⟨b, some_ret h, ?_⟩
      have rs := see_ok w r e
      cases rs with
      | non => cases q; rfl
      | bl b => cases q; rfl
      | int i => cases q; rfl
      | str x =>
        unfold truB at q
        simp only at q
        by_cases hc : x.length ≤ LIM
        · rw [if_pos hc] at q
          cases q
          exact ⟨Nat.le_trans hc LIM_le, rfl⟩
        · rw [if_neg hc] at q
          cases q
      | tup s r' => cases q; exact .inr (.inl ⟨_, w.ext.sqT s, by rw [r'.isEmpty]⟩)
      | lst s r' => cases q; exact .inl ⟨_, .inl (.inl s), by rw [r'.isEmpty]⟩
      | ro s r' => cases q; exact .inl ⟨_, w.ext.sqL s, by rw [r'.isEmpty]⟩
      | dic s z r => cases q
      | ty n => cases q
end MC

/-! MC, part 4: expressions. -/
namespace MC
open PySem PySem.Spec PyProof.Rows L2

/-- what a place in the code must know of its surroundings -/
structure Good (X : Cx) (W : WX) : Prop where
  calm : X.calm = true
  nd : X.N.Nodup
  tk : Takes X W
  gu : X.A.guards = some []
  un : X.A.units + 100 < cLine

section
variable {X : Cx} {cl : Nat → Addr} {W : WX}
theorem PE.weak {e : Expr} {t t' : TE} (h : PE X e t) (hw : ∀ σ H Q, t' σ H Q → t σ H Q) : PE X e t' := ⟨fun pins s σ H Q I q => h.run pins s σ H Q I (hw σ H Q q)⟩
theorem PT.weak {e : Expr} {t t' : TT} (h : PT X e t) (hw : ∀ σ H Q, t' σ H Q → t σ H Q) : PT X e t' := ⟨fun pins s σ H Q I q => h.run pins s σ H Q I (hw σ H Q q)⟩
theorem PA.weak {e : List Expr} {t t' : TA} (h : PA X e t) (hw : ∀ σ H Q, t' σ H Q → t σ H Q) : PA X e t' := ⟨fun pos pins s σ H Q I q => h.run pos pins s σ H Q I (hw σ H Q q)⟩
theorem PO.weak {e : Option Expr} {t t' : TO} (h : PO X e t) (hw : ∀ σ H Q, t' σ H Q → t σ H Q) : PO X e t' := ⟨fun pins s σ H Q I q => h.run pins s σ H Q I (hw σ H Q q)⟩

/-! ### names, constants -/
def mVar (i : Nat) : Rho → M D := fun ρ => M.opt (ρ[i]?.join)
theorem se_var {i : Nat} {x : Str} {pos : Pos} (hN : X.N[i]? = some x) (hv : Vis X.env.scope x) (hd : (x == ("__debug__" : Str)) = false) (hcd : (x == ("__classdict__" : Str)) = false) : PE X (.Name x pos) (tE X.K cl W (mVar i)) := by
  refine PE.weak (pe_var hN hv hd hcd) fun σ H Q h => ?_
  obtain ⟨F, cs, ρ, st, r, w, en, hm, o⟩ := h
  unfold mVar at hm
  cases e : ρ[i]? with
  | none => rw [e] at hm; cases hm
  | some od =>
    rw [e] at hm
    cases od with
    | none => cases hm
    | some d =>
      obtain ⟨v, h1, h2⟩ := en.get i d e
      cases some_ret hm
      exact ⟨v, h1, o.val w h2⟩
def mCon (d : D) : Rho → M D := fun _ => M.ret d
theorem se_tc {d : D} {v : V} {e : Expr} (h : PE X e (tC v)) (hr : ∀ F cs, Rp X.K F cs d v) : PE X e (tE X.K cl W (mCon d)) := by
  refine PE.weak h fun σ H Q h => ?_
  obtain ⟨F, cs, ρ, st, r, w, en, hm, o⟩ := h
  cases some_ret hm
  exact o.val w (hr F cs)

/-! ### operators -/
def mBin (f : D → D → M D) (a b : Rho → M D) : Rho → M D := fun ρ => (a ρ).bind fun x => (b ρ).bind fun y => f x y
theorem bin_read {f : D → D → M D} {r : R2} {a b : Rho → M D} (hf : OpD X.K cl f r) {σ : L2.St} {H : Hp} {Q : VK} (h : tE X.K cl W (mBin f a b) σ H Q) : tOp r (tE X.K cl W a) (tE X.K cl W b) σ H Q := by
  obtain ⟨F, cs, ρ, st, z, w, en, hm, o⟩ := h
  refine go w en hm o fun F1 cs1 x vx st1 H1 e1 w1 en1 r1 h1 o1 => ?_
  refine go w1 en1 h1 o1 fun F2 cs2 y vy st2 H2 e2 w2 en2 r2 h2 o2 => ?_
  exact hf W ρ F2 cs2 st2 H2 x y vx vy z Q w2 (Rp.mono e2 r1) r2 h2 o2
theorem se_bin {op : Operator} {a b : Expr} {ma mb : Rho → M D} {pos : Pos} (ha : PE X a (tE X.K cl W ma)) (hb : PE X b (tE X.K cl W mb)) : PE X (.BinOp a op b pos) (tE X.K cl W (mBin (binF op) ma mb)) := by
  obtain ⟨r, ho, hf⟩ := bin_ok (X := X) (cl := cl) op
  exact PE.weak (pe_op ho ha hb) fun σ H Q h => bin_read hf h
theorem se_cmp (g : Good X W) {op : CmpOp} {a b : Expr} {ma mb : Rho → M D} {pos : Pos} (ha : PE X a (tE X.K cl W ma)) (hb : PE X b (tE X.K cl W mb)) (hm : behindInMarks op b = false) : PE X (.Compare a [op] [b] pos) (tE X.K cl W (mBin (cmpF op) ma mb)) := by
  obtain ⟨r, ho, hf⟩ := cmp_ok (X := X) (cl := cl) (by have := g.un; omega) op
  exact PE.weak (pe_cmpR ho ha hb hm) fun σ H Q h => bin_read hf h
/-- the truth of what is told -/
def isBl : D → M Bool
  | .bl b => M.ret b
  | _ => M.no
theorem st_cmp (g : Good X W) {op : CmpOp} {a b : Expr} {ma mb : Rho → M D} {pos : Pos} (ha : PE X a (tE X.K cl W ma)) (hb : PE X b (tE X.K cl W mb)) (hm : behindInMarks op b = false) : PT X (.Compare a [op] [b] pos) (tT X.K cl W fun ρ => (mBin (cmpF op) ma mb ρ).bind isBl) := by
  obtain ⟨r, ho, hf⟩ := cmp_ok (X := X) (cl := cl) (by have := g.un; omega) op
  refine PT.weak (pt_cmpR ho ha hb hm) fun σ H Q h => ?_
  obtain ⟨F, cs, ρ, st, z, w, en, hm, o⟩ := h
  refine bin_read (W := W) hf (go w en hm o fun F1 cs1 x vx st1 H1 e1 w1 en1 r1 h1 o1 => ?_)
  cases r1 with
  | bl b =>
    cases some_ret h1
    exact ⟨b, rfl, o1.val w1 rfl⟩
  | _ => cases h1
def mChain (f f' : D → D → M D) (a b c : Rho → M D) : Rho → M D := fun ρ => (a ρ).bind fun x => (b ρ).bind fun y => (f x y).bind fun z => (isBl z).bind fun k => if k = true then (c ρ).bind fun w => f' y w else M.ret (.bl false)
theorem OpD.goes {K : PySem.W.Frag} {f : D → D → M D} {r : R2} (hf : OpD K cl f r) {ρ : Rho} {F : Hp} {cs : CS} {st : Sto} {H : Hp} {σ : L2.St} {x y : D} {v u : V} {k : D → M D} {z : Res D} {Q : VK} {Q' : VK} (w : Wd K F cs st H) (en : EnvR K F cs ρ σ) (rx : Rp K F cs x v) (ry : Rp K F cs y u)
    (hm : ((f x y).bind k) st = some z) (o : Out K cl W ρ (repV K) F cs z Q) (hW : ∀ c st', f x y st = some (.ex c st') → False)
    (h : ∀ F' cs' a b st' H', Ext F F' cs cs' → Wd K F' cs' st' H' → Rp K F' cs' a b → k a st' = some z → Q' b H') : r v u H Q' := by
  unfold M.bind at hm
  cases q : f x y st with
  | none => rw [q] at hm; cases hm
  | some s =>
    rw [q] at hm
    cases s with
    | ok a st' => exact hf W ρ F cs st H x y v u _ Q' w rx ry q fun F' cs' b H' e w' r' => h F' cs' a b st' H' e w' r' hm
    | ex c st' => exact (hW c st' q).elim
theorem no_ex_opt {α : Type} {x : Option α} {st st' : Sto} {c : Nat} (h : M.opt x st = some (.ex c st')) : False := by
  cases x <;> cases h
theorem cmp_noex (op : CmpOp) (x y : D) (c : Nat) (st st' : Sto) (h : cmpF op x y st = some (.ex c st')) : False := by
  have see : ∀ f : D → D → M D, (∀ a b c st', f a b st = some (.ex c st') → False) → sees2 f x y st = some (.ex c st') → False := fun f hf q => by
    unfold sees2 at q
    cases q1 : x.see st with
    | none => rw [q1] at q; cases q
    | some a =>
      cases q2 : y.see st with
      | none => rw [q1, q2] at q; cases q
      | some b => rw [q1, q2] at q; exact hf a b _ _ q
  cases op
  · exact see _ (fun a b c st' q => no_ex_opt q) h
  · exact see _ (fun a b c st' q => no_ex_opt q) h
  · exact see _ (fun a b c st' q => no_ex_opt q) h
  · exact see _ (fun a b c st' q => no_ex_opt q) h
  · exact see _ (fun a b c st' q => no_ex_opt q) h
  · exact see _ (fun a b c st' q => no_ex_opt q) h
  · exact no_ex_opt h
  · exact no_ex_opt h
  · exact see _ (fun a b c st' q => no_ex_opt q) h
  · exact see _ (fun a b c st' q => no_ex_opt q) h
theorem chain_read {op op' : CmpOp} {r r' : R2} {a b c : Rho → M D} (hf : OpD X.K cl (cmpF op) r) (hf' : OpD X.K cl (cmpF op') r') {σ : L2.St} {H : Hp} {Q : VK} (h : tE X.K cl W (mChain (cmpF op) (cmpF op') a b c) σ H Q) : tChain r r' (tE X.K cl W a) (tE X.K cl W b) (tE X.K cl W c) σ H Q := by
  obtain ⟨F, cs, ρ, st, z, w, en, hm, o⟩ := h
  refine go w en hm o fun F1 cs1 x vx st1 H1 e1 w1 en1 r1 h1 o1 => ?_
  refine go w1 en1 h1 o1 fun F2 cs2 y vy st2 H2 e2 w2 en2 r2 h2 o2 => ?_
  refine hf.goes w2 en2 (Rp.mono e2 r1) r2 h2 o2 (fun c st' q => cmp_noex op x y c st2 st' q) fun F3 cs3 t vt st3 H3 e3 w3 r3 h3 => ?_
  have o3 := o2.mono e3
  have en3 := en2.mono e3
  cases r3 with
  | bl k =>
    refine ⟨k, rfl, ?_⟩
    cases k with
    | false =>
      cases some_ret h3
      exact o3.val w3 (.bl false)
    | true =>
      have h3' : ((c ρ).bind fun w => cmpF op' y w) st3 = some z := h3
      show tE X.K cl W c σ H3 _
      refine go w3 en3 h3' o3 fun F4 cs4 t vt st4 H4 e4 w4 en4 r4 h4 o4 => ?_
      exact hf' W ρ F4 cs4 st4 H4 y t vy vt z Q w4 ((r2.mono e3).mono e4) r4 h4 o4
  | _ => cases h3
theorem se_chain (g : Good X W) {op op' : CmpOp} {a b c : Expr} {ma mb mc : Rho → M D} {pos : Pos} (ha : PE X a (tE X.K cl W ma)) (hb : PE X b (tE X.K cl W mb)) (hc : PE X c (tE X.K cl W mc)) (hm : lastMarks [op, op'] [b, c] = false) :
    PE X (.Compare a [op, op'] [b, c] pos) (tE X.K cl W (mChain (cmpF op) (cmpF op') ma mb mc)) := by
  obtain ⟨r, ho, hf⟩ := cmp_ok (X := X) (cl := cl) (by have := g.un; omega) op
  obtain ⟨r', ho', hf'⟩ := cmp_ok (X := X) (cl := cl) (by have := g.un; omega) op'
  exact PE.weak (pe_chain ho ho' ha hb hc hm) fun σ H Q h => chain_read hf hf' h
theorem st_chain (g : Good X W) {op op' : CmpOp} {a b c : Expr} {ma mb mc : Rho → M D} {pos : Pos} (ha : PE X a (tE X.K cl W ma)) (hb : PE X b (tE X.K cl W mb)) (hc : PE X c (tE X.K cl W mc)) (hm : lastMarks [op, op'] [b, c] = false) :
    PT X (.Compare a [op, op'] [b, c] pos) (tT X.K cl W fun ρ => (mChain (cmpF op) (cmpF op') ma mb mc ρ).bind isBl) := by
  obtain ⟨r, ho, hf⟩ := cmp_ok (X := X) (cl := cl) (by have := g.un; omega) op
  obtain ⟨r', ho', hf'⟩ := cmp_ok (X := X) (cl := cl) (by have := g.un; omega) op'
  refine PT.weak (pt_chain ho ho' ha hb hc hm) fun σ H Q h => ?_
  obtain ⟨F, cs, ρ, st, z, w, en, hm, o⟩ := h
  refine chain_read (W := W) hf hf' (go w en hm o fun F1 cs1 x vx st1 H1 e1 w1 en1 r1 h1 o1 => ?_)
  cases r1 with
  | bl b =>
    cases some_ret h1
    exact ⟨b, rfl, o1.val w1 rfl⟩
  | _ => cases h1

/-! ### and, or, not, if -/
/-- v and w, v or w as values -/
def mAndV (a b : Rho → M D) : Rho → M D := fun ρ => (a ρ).bind fun x => (truF x).bind fun k => if k = true then b ρ else M.ret x
def mOrV (a b : Rho → M D) : Rho → M D := fun ρ => (a ρ).bind fun x => (truF x).bind fun k => if k = true then M.ret x else b ρ
theorem tru_goes {K : PySem.W.Frag} {α : Type} {F H : Hp} {cs : CS} {st : Sto} {d : D} {v : V} {k : Bool → M α} {z : Res α} (w : Wd K F cs st H) (r : Rp K F cs d v) (h : ((truF d).bind k) st = some z) : ∃ b, TruV K v H b ∧ k b st = some z := by
  unfold M.bind at h
  cases q : truF d st with
  | none => rw [q] at h; cases h
  | some s =>
    rw [q] at h
    obtain ⟨b, rfl, t⟩ := tru_data w r q
    exact ⟨b, t, h⟩
theorem se_and {a b : Expr} {rest : List Expr} {ma mb : Rho → M D} {pos : Pos} (ha : PE X a (tE X.K cl W ma)) (hb : PE X (.BoolOp .And (b :: rest) pos) (tE X.K cl W mb)) : PE X (.BoolOp .And (a :: b :: rest) pos) (tE X.K cl W (mAndV ma mb)) := by
  refine PE.weak (pe_andT ha hb) fun σ H Q h => ?_
  obtain ⟨F, cs, ρ, st, z, w, en, hm, o⟩ := h
  refine go w en hm o fun F1 cs1 x vx st1 H1 e1 w1 en1 r1 h1 o1 => ?_
  obtain ⟨k, t, h2⟩ := tru_goes w1 r1 h1
  refine ⟨k, t, ?_⟩
  cases k with
  | true => exact ⟨F1, cs1, ρ, st1, z, w1, en1, h2, o1⟩
  | false =>
    cases some_ret h2
    exact o1.val w1 r1
theorem se_or {a b : Expr} {rest : List Expr} {ma mb : Rho → M D} {pos : Pos} (ha : PE X a (tE X.K cl W ma)) (hb : PE X (.BoolOp .Or (b :: rest) pos) (tE X.K cl W mb)) : PE X (.BoolOp .Or (a :: b :: rest) pos) (tE X.K cl W (mOrV ma mb)) := by
  refine PE.weak (pe_orT ha hb) fun σ H Q h => ?_
  obtain ⟨F, cs, ρ, st, z, w, en, hm, o⟩ := h
  refine go w en hm o fun F1 cs1 x vx st1 H1 e1 w1 en1 r1 h1 o1 => ?_
  obtain ⟨k, t, h2⟩ := tru_goes w1 r1 h1
  refine ⟨k, t, ?_⟩
  cases k with
  | false => exact ⟨F1, cs1, ρ, st1, z, w1, en1, h2, o1⟩
  | true =>
    cases some_ret h2
    exact o1.val w1 r1
theorem se_one {op : BoolOp} {a : Expr} {ma : Rho → M D} {pos : Pos} (ha : PE X a (tE X.K cl W ma)) : PE X (.BoolOp op [a] pos) (tE X.K cl W ma) := pe_one ha
def mNotV (a : Rho → M D) : Rho → M D := fun ρ => (a ρ).bind fun x => (truF x).bind fun k => M.ret (.bl (!k))
theorem se_not {a : Expr} {ma : Rho → M D} {pos : Pos} (ha : PE X a (tE X.K cl W ma)) : PE X (.UnaryOp .Not a pos) (tE X.K cl W (mNotV ma)) := by
  refine PE.weak (pe_notT ha) fun σ H Q h => ?_
  obtain ⟨F, cs, ρ, st, z, w, en, hm, o⟩ := h
  refine go w en hm o fun F1 cs1 x vx st1 H1 e1 w1 en1 r1 h1 o1 => ?_
  obtain ⟨k, t, h2⟩ := tru_goes w1 r1 h1
  cases some_ret h2
  exact ⟨k, t, o1.val w1 (.bl _)⟩
def mNeg (a : Rho → M D) : Rho → M D := fun ρ => (a ρ).bind fun x => match x with
  | .int i => M.ret (.int (-i))
  | _ => M.no
theorem se_neg {a : Expr} {ma : Rho → M D} {pos : Pos} (ha : PE X a (tE X.K cl W ma)) : PE X (.UnaryOp .USub a pos) (tE X.K cl W (mNeg ma)) := by
  refine PE.weak (pe_un un_neg ha) fun σ H Q h => ?_
  obtain ⟨F, cs, ρ, st, z, w, en, hm, o⟩ := h
  refine go w en hm o fun F1 cs1 x vx st1 H1 e1 w1 en1 r1 h1 o1 => ?_
  cases r1 with
  | int i =>
    cases some_ret h1
    exact ⟨i, rfl, o1.val w1 (.int _)⟩
  | _ => cases h1
/-- tests -/
theorem st_truth {a : Expr} {ma : Rho → M D} (ha : PE X a (tE X.K cl W ma)) (he : ∀ whole, isTrue a X.env whole = (do let v ← whole; standAt a.pos; holding [v] (truthy v))) : PT X a (tT X.K cl W fun ρ => (ma ρ).bind truF) := by
  refine PT.weak (pt_truth ha he) fun σ H Q h => ?_
  obtain ⟨F, cs, ρ, st, z, w, en, hm, o⟩ := h
  refine go w en hm o fun F1 cs1 x vx st1 H1 e1 w1 en1 r1 h1 o1 => ?_
  obtain ⟨b, rfl, t⟩ := tru_data w1 r1 h1
  exact ⟨b, t, o1.val w1 rfl⟩
def mNotT (a : Rho → M Bool) : Rho → M Bool := fun ρ => (a ρ).bind fun k => M.ret (!k)
theorem st_not {a : Expr} {ma : Rho → M Bool} {pos : Pos} (ha : PT X a (tT X.K cl W ma)) : PT X (.UnaryOp .Not a pos) (tT X.K cl W (mNotT ma)) := by
  refine PT.weak (pt_not ha) fun σ H Q h => ?_
  obtain ⟨F, cs, ρ, st, z, w, en, hm, o⟩ := h
  refine go w en hm o fun F1 cs1 x vx st1 H1 e1 w1 en1 r1 h1 o1 => ?_
  cases r1
  cases some_ret h1
  exact o1.val w1 rfl
def mAndT (a b : Rho → M Bool) : Rho → M Bool := fun ρ => (a ρ).bind fun k => if k = true then b ρ else M.ret false
def mOrT (a b : Rho → M Bool) : Rho → M Bool := fun ρ => (a ρ).bind fun k => if k = true then M.ret true else b ρ
theorem PW.weak {e : Expr} {t t' : TT} (h : PW X e t) (hw : ∀ σ H Q, t' σ H Q → t σ H Q) : PW X e t' := ⟨fun wh pins s σ H Q I q => h.run wh pins s σ H Q I (hw σ H Q q)⟩
theorem st_and {a b : Expr} {rest : List Expr} {ma mb : Rho → M Bool} {pos : Pos} (ha : PT X a (tT X.K cl W ma)) (hb : PW X (.BoolOp .And (b :: rest) pos) (tT X.K cl W mb)) : PW X (.BoolOp .And (a :: b :: rest) pos) (tT X.K cl W (mAndT ma mb)) := by
  refine PW.weak (pw_and ha hb) fun σ H Q h => ?_
  obtain ⟨F, cs, ρ, st, z, w, en, hm, o⟩ := h
  refine go w en hm o fun F1 cs1 x vx st1 H1 e1 w1 en1 r1 h1 o1 => ?_
  cases r1
  cases x with
  | true => exact ⟨F1, cs1, ρ, st1, z, w1, en1, h1, o1⟩
  | false =>
    cases some_ret h1
    exact o1.val w1 rfl
theorem st_or {a b : Expr} {rest : List Expr} {ma mb : Rho → M Bool} {pos : Pos} (ha : PT X a (tT X.K cl W ma)) (hb : PW X (.BoolOp .Or (b :: rest) pos) (tT X.K cl W mb)) : PW X (.BoolOp .Or (a :: b :: rest) pos) (tT X.K cl W (mOrT ma mb)) := by
  refine PW.weak (pw_or ha hb) fun σ H Q h => ?_
  obtain ⟨F, cs, ρ, st, z, w, en, hm, o⟩ := h
  refine go w en hm o fun F1 cs1 x vx st1 H1 e1 w1 en1 r1 h1 o1 => ?_
  cases r1
  cases x with
  | false => exact ⟨F1, cs1, ρ, st1, z, w1, en1, h1, o1⟩
  | true =>
    cases some_ret h1
    exact o1.val w1 rfl
theorem st_and1 {a : Expr} {ma : Rho → M Bool} {pos : Pos} (ha : PT X a (tT X.K cl W ma)) : PW X (.BoolOp .And [a] pos) (tT X.K cl W ma) := pw_and1 ha
theorem st_or1 {a : Expr} {ma : Rho → M Bool} {pos : Pos} (ha : PT X a (tT X.K cl W ma)) : PW X (.BoolOp .Or [a] pos) (tT X.K cl W ma) := pw_or1 ha
def mIf (c : Rho → M Bool) (a b : Rho → M D) : Rho → M D := fun ρ => (c ρ).bind fun k => if k = true then a ρ else b ρ
theorem se_if {c a b : Expr} {mc : Rho → M Bool} {ma mb : Rho → M D} {pos : Pos} (hc : PT X c (tT X.K cl W mc)) (ha : PE X a (tE X.K cl W ma)) (hb : PE X b (tE X.K cl W mb)) : PE X (.IfExp c a b pos) (tE X.K cl W (mIf mc ma mb)) := by
  refine PE.weak (pe_ifExp hc ha hb) fun σ H Q h => ?_
  obtain ⟨F, cs, ρ, st, z, w, en, hm, o⟩ := h
  refine go w en hm o fun F1 cs1 x vx st1 H1 e1 w1 en1 r1 h1 o1 => ?_
  cases r1
  cases x with
  | true => exact ⟨F1, cs1, ρ, st1, z, w1, en1, h1, o1⟩
  | false => exact ⟨F1, cs1, ρ, st1, z, w1, en1, h1, o1⟩

/-! ### lists of arguments, displays -/
def mNil : Rho → M (List D) := fun _ => M.ret []
def mCons (a : Rho → M D) (b : Rho → M (List D)) : Rho → M (List D) := fun ρ => (a ρ).bind fun x => (b ρ).bind fun xs => M.ret (x :: xs)
theorem sa_nil : PA X [] (tA X.K cl W mNil) := by
  refine PA.weak pa_nil fun σ H Q h => ?_
  obtain ⟨F, cs, ρ, st, z, w, en, hm, o⟩ := h
  cases some_ret hm
  exact o.val w .nil
theorem sa_cons {e : Expr} {es : List Expr} {ma : Rho → M D} {mb : Rho → M (List D)} (ha : PE X e (tE X.K cl W ma)) (hb : PA X es (tA X.K cl W mb)) (hs : starEach (e :: es) X.env = (false, eval e X.env) :: starEach es X.env) : PA X (e :: es) (tA X.K cl W (mCons ma mb)) := by
  refine PA.weak (pa_cons ha hb hs) fun σ H Q h => ?_
  obtain ⟨F, cs, ρ, st, z, w, en, hm, o⟩ := h
  refine go w en hm o fun F1 cs1 x vx st1 H1 e1 w1 en1 r1 h1 o1 => ?_
  refine go w1 en1 h1 o1 fun F2 cs2 y vy st2 H2 e2 w2 en2 r2 h2 o2 => ?_
  cases some_ret h2
  exact o2.val w2 (.cons (Rp.mono e2 r1) r2)
def mTup (a : Rho → M (List D)) : Rho → M D := fun ρ => (a ρ).bind fun xs => if xs.length ≤ LIM then M.ret (.tup xs) else M.no
theorem se_tup {es : List Expr} {ma : Rho → M (List D)} {k : Nat} {pos : Pos} (ha : PA X es (tA X.K cl W ma)) : PE X (.Tuple es k pos) (tE X.K cl W (mTup ma)) := by
  refine PE.weak (pe_tup ha) fun σ H Q h => ?_
  obtain ⟨F, cs, ρ, st, z, w, en, hm, o⟩ := h
  refine go w en hm o fun F1 cs1 x vx st1 H1 e1 w1 en1 r1 h1 o1 => ?_
  obtain ⟨hc, h1⟩ := ite_ret h1
  cases some_ret h1
  rw [RpL.length r1] at hc
  exact ⟨Nat.le_trans hc LIM_le, fun p hp => o1.new w1 hp (.tup (.inl (.inl upd_same)) (RpL.mono (w1.new hp).1 r1))⟩
def mLst (a : Rho → M (List D)) : Rho → M D := fun ρ => (a ρ).bind fun xs => if xs.length ≤ LIM then M.ret (.lst xs) else M.no
theorem se_lst {es : List Expr} {ma : Rho → M (List D)} {pos : Pos} (ha : PA X es (tA X.K cl W ma)) : PE X (.List es pos) (tE X.K cl W (mLst ma)) := by
  refine PE.weak (pe_lst ha) fun σ H Q h => ?_
  obtain ⟨F, cs, ρ, st, z, w, en, hm, o⟩ := h
  refine go w en hm o fun F1 cs1 x vx st1 H1 e1 w1 en1 r1 h1 o1 => ?_
  obtain ⟨hc, h1⟩ := ite_ret h1
  cases some_ret h1
  rw [RpL.length r1] at hc
  exact ⟨Nat.le_trans hc LIM_le, fun p hp => o1.new w1 hp (.lst upd_same (RpL.mono (w1.new hp).1 r1))⟩
/-- a list that will be changed: a thing of the store -/
def M.newC (c : C) : M D := fun st => some (.ok (.cell st.length) (st ++ [c]))
def mLstC (a : Rho → M (List D)) : Rho → M D := fun ρ => (a ρ).bind fun xs => if xs.length ≤ LIM then M.newC (.lst xs) else M.no
theorem Out.newC {K : PySem.W.Frag} {ρ : Rho} {F : Hp} {cs : CS} {c : C} {st : Sto} {H : Hp} {Q : VK} {z : Res D} (o : Out K cl W ρ (repV K) F cs z Q) (hz : M.newC c st = some z)
    (w : Wd K F cs st H) {p : Addr} {u : HO} (hp : H p = none) (r : CellOk K F cs c (some u)) : Q (.ref p) (upd H p u) := by
  have e : z = .ok (.cell st.length) (st ++ [c]) := (Option.some.inj hz).symm
  subst e
  refine o F ⟨cs.l ++ [p], cs.g⟩ (.ref p) (upd H p u) (w.newCell hp r).1 (w.newCell hp r).2 (.cell ?_)
  show (cs.l ++ [p])[st.length]? = some p
  rw [List.getElem?_append_right (by rw [w.len]; exact Nat.le_refl _), w.len, Nat.sub_self]
  rfl
theorem se_lstC {es : List Expr} {ma : Rho → M (List D)} {pos : Pos} (ha : PA X es (tA X.K cl W ma)) : PE X (.List es pos) (tE X.K cl W (mLstC ma)) := by
  refine PE.weak (pe_lst ha) fun σ H Q h => ?_
  obtain ⟨F, cs, ρ, st, z, w, en, hm, o⟩ := h
  refine go w en hm o fun F1 cs1 x vx st1 H1 e1 w1 en1 r1 h1 o1 => ?_
  obtain ⟨hc, h1⟩ := ite_ret h1
  rw [RpL.length r1] at hc
  exact ⟨Nat.le_trans hc LIM_le, fun p hp => o1.newC h1 w1 hp ⟨vx, rfl, r1⟩⟩

/-! ### places, slices -/
theorem RpL.atI {K : PySem.W.Frag} {F : Hp} {cs : CS} {l : List D} {vs : List V} {i : Int} {d : D} (r : RpL K F cs l vs) (h : L2.atI l i = some d) : ∃ v, L2.atI vs i = some v ∧ Rp K F cs d v := by
  unfold L2.atI at h ⊢
  rw [← r.length]
  cases e : ixN l.length i with
  | none => rw [e] at h; cases h
  | some j =>
    rw [e] at h
    exact r.get h
def ixB : D → D → Option D
  | .tup l, .int i => L2.atI l i
  | .lst l, .int i => L2.atI l i
  | .ro l, .int i => L2.atI l i
  | .str z, .int i => if z.length ≤ LIM then (L2.atI z.cps.toList i).map fun c => .str ⟨#[c]⟩ else none
  | _, _ => none
def ixF : D → D → M D := sees2 fun x y => M.opt (ixB x y)
theorem optD {f : Option D} {st : Sto} {z : Res D} (h : M.opt f st = some z) : ∃ d, f = some d ∧ z = .ok d st := by
  cases f with
  | none => cases h
  | some b => exact ⟨b, rfl, some_ret h⟩
theorem ix_ok {K : PySem.W.Frag} : OpD K cl ixF (rIx K) := by
  refine OpS.d ?_
  intro W ρ F cs st H x y v u z Q w rx ry hf o
  obtain ⟨d, e, rfl⟩ := optD hf
  unfold ixB at e
  split at e
  · cases rx with
    | tup s r =>
      cases ry
      obtain ⟨v, e1, r1⟩ := r.atI e
      exact .inr (.inl ⟨_, _, _, v, rfl, rfl, w.ext.sqT s, e1, o.val w r1⟩)
  · cases rx with
    | lst s r =>
      cases ry
      obtain ⟨v, e1, r1⟩ := r.atI e
      exact .inl ⟨_, _, _, v, rfl, rfl, .inl (.inl s), e1, o.val w r1⟩
  · cases rx with
    | ro s r =>
      cases ry
      obtain ⟨v, e1, r1⟩ := r.atI e
      exact .inl ⟨_, _, _, v, rfl, rfl, w.ext.sqL s, e1, o.val w r1⟩
  · rename_i zz i
    cases rx
    cases ry
    by_cases hc : zz.length ≤ LIM
    · rw [if_pos hc] at e
      obtain ⟨c, e1, rfl⟩ := Option.map_eq_some_iff.mp e
      exact .inr (.inr ⟨_, _, c, rfl, rfl, Nat.le_trans hc LIM_le, e1, o.val w (.str _)⟩)
    · rw [if_neg hc] at e
      cases e
  · cases e
theorem se_ix {a b : Expr} {ma mb : Rho → M D} {pos : Pos} (ha : PE X a (tE X.K cl W ma)) (hb : PE X b (tE X.K cl W mb)) (hs : PlainIx b) : PE X (.Subscript a b pos) (tE X.K cl W (mBin ixF ma mb)) :=
  PE.weak (pe_ix ix_seq ha hb hs) fun σ H Q h => bin_read ix_ok h
def mPart (a : Rho → M D) : Rho → M (Option Int) := fun ρ => (a ρ).bind fun x => match x with
  | .int i => M.ret (some i)
  | _ => M.no
def mPart0 : Rho → M (Option Int) := fun _ => M.ret none
abbrev repO : Hp → CS → Option Int → Option Int → Prop := fun _ _ a b => a = b
abbrev tOd (K : PySem.W.Frag) (cl : Nat → Addr) (W : WX) (m : Rho → M (Option Int)) : TO := tG K cl W repO m
theorem so_none : PO X none (tOd X.K cl W mPart0) := by
  refine PO.weak po_none fun σ H Q h => ?_
  obtain ⟨F, cs, ρ, st, z, w, en, hm, o⟩ := h
  cases some_ret hm
  exact o.val w rfl
theorem so_some {e : Expr} {ma : Rho → M D} (ha : PE X e (tE X.K cl W ma)) : PO X (some e) (tOd X.K cl W (mPart ma)) := by
  refine PO.weak (po_some ha) fun σ H Q h => ?_
  obtain ⟨F, cs, ρ, st, z, w, en, hm, o⟩ := h
  refine go w en hm o fun F1 cs1 x vx st1 H1 e1 w1 en1 r1 h1 o1 => ?_
  cases r1 with
  | int i =>
    cases some_ret h1
    exact ⟨i, rfl, o1.val w1 rfl⟩
  | _ => cases h1
def cutD (l : List D) (lo hi : Option Int) : List D := (l.drop (HT.sIx l.length 0 lo)).take (HT.sIx l.length l.length hi - HT.sIx l.length 0 lo)
theorem RpL.cut {K : PySem.W.Frag} {F : Hp} {cs : CS} {l : List D} {vs : List V} (r : RpL K F cs l vs) (lo hi : Option Int) : RpL K F cs (cutD l lo hi) (cutV vs lo hi) := by
  unfold cutD cutV
  rw [r.length]
  exact (r.drop _).take _
def slB (x : D) (lo hi : Option Int) : Option D := match x with
  | .tup l => some (.tup (cutD l lo hi))
  | .lst l => some (.lst (cutD l lo hi))
  | .str z => if z.length ≤ LIM then some (.str (cutS z lo hi)) else none
  | _ => none
def slF (x : D) (lo hi : Option Int) : M D := fun st => match x.see st with
  | some y => M.opt (slB y lo hi) st
  | none => none
def mSlice (a : Rho → M D) (lo hi : Rho → M (Option Int)) : Rho → M D := fun ρ => (a ρ).bind fun x => (lo ρ).bind fun l => (hi ρ).bind fun h => slF x l h
theorem cut_whole {vs : List V} {lo hi : Option Int} (h : HT.sIx vs.length 0 lo = 0 ∧ HT.sIx vs.length vs.length hi = vs.length) : cutV vs lo hi = vs := by
  unfold cutV
  rw [h.1, h.2, List.drop_zero, Nat.sub_zero, List.take_length]
theorem cut_wholeD {l : List D} {lo hi : Option Int} (h : HT.sIx l.length 0 lo = 0 ∧ HT.sIx l.length l.length hi = l.length) : cutD l lo hi = l := by
  unfold cutD
  rw [h.1, h.2, List.drop_zero, Nat.sub_zero, List.take_length]
theorem se_slice {a : Expr} {lo hi : Option Expr} {ma : Rho → M D} {ml mh : Rho → M (Option Int)} {pos p2 : Pos} (ha : PE X a (tE X.K cl W ma)) (hl : PO X lo (tOd X.K cl W ml)) (hh : PO X hi (tOd X.K cl W mh)) : PE X (.Subscript a (.Slice lo hi none p2) pos) (tE X.K cl W (mSlice ma ml mh)) := by
  refine PE.weak (pe_slice (SlR.or sl_tupA (SlR.or sl_list sl_str)) ha hl hh) fun σ H Q h => ?_
  obtain ⟨F, cs, ρ, st, z, w, en, hm, o⟩ := h
  refine go w en hm o fun F1 cs1 x vx st1 H1 e1 w1 en1 r1 h1 o1 => ?_
  refine go w1 en1 h1 o1 fun F2 cs2 l l' st2 H2 e2 w2 en2 r2 h2 o2 => ?_
  cases r2
  refine go w2 en2 h2 o2 fun F3 cs3 u u' st3 H3 e3 w3 en3 r3 h3 o3 => ?_
  cases r3
  unfold slF at h3
  cases q : x.see st3 with
  | none => rw [q] at h3; cases h3
  | some y =>
    rw [q] at h3
    have rs := see_ok w3 (Rp.mono e3 (Rp.mono e2 r1)) q
    obtain ⟨d, e, rfl⟩ := optD h3
    cases rs with
    | @tup p vs l0 s r =>
      cases e
      refine .inl ⟨_, _, rfl, w3.ext.sqT s, fun hw => ?_, fun hw p hp => o3.new w3 hp (.tup (.inl (.inl upd_same)) ((r.cut l u).mono (w3.new hp).1))⟩
      have hw' : HT.sIx l0.length 0 l = 0 ∧ HT.sIx l0.length l0.length u = l0.length := by rw [r.length]; exact hw
      rw [cut_wholeD hw'] at o3
      exact o3.val w3 (.tup s r)
    | lst s r =>
      cases e
      exact .inr (.inl ⟨_, _, rfl, .inl (.inl s), fun p hp => o3.new w3 hp (.lst upd_same ((r.cut l u).mono (w3.new hp).1))⟩)
    | str zz =>
      unfold slB at e
      simp only at e
      by_cases hc : zz.length ≤ LIM
      · rw [if_pos hc] at e
        cases e
        exact .inr (.inr ⟨_, rfl, Nat.le_trans hc LIM_le, o3.val w3 (.str _)⟩)
      · rw [if_neg hc] at e
        cases e
    | _ => cases e
end
end MC

/-! MC, part 5: the calls of the text's own defs. -/
namespace MC
open PySem PySem.Spec PyProof.Rows L2

/-- a def keeps its promise wherever nothing is being shown (no repr under way) -/
structure Fk (P : Program) (w : World) (K : PySem.W.Frag) (mg : Str → Option Value) (base : Heap) (n : Nat) (f : Addr) (fd : FuncData) (ps : List Str) (sp : Sp) : Prop where
  len : ∀ vs H Q E, sp vs H Q E → vs.length = ps.length
  run : ∀ (A : Around) (outer : List Env) (s : Shared) (H : Hp) (args : Args) (us : List Value) (vs : List V) (Q : VK) (E : XK),
    Room n A → A.guards = some [] → Env0 P w K mg base A outer s H → BindsTo s fd args (ps.zip us) → Vals vs us → sp vs H Q E →
    codeAny (model P w) A (.call (.ref f) args) (CR (L2.CX P w) outer P w H s Q E) s
section
variable {P : Program} {w : World} {K : PySem.W.Frag} {mg : Str → Option Value} {base : Heap}
theorem fk_of {n : Nat} {f : Addr} {fd : FuncData} {nm qual : Str} {params : Arguments} {body : List Stmt} {scope : Scope} {dv : List V} {kv : List (Str × V)} {N ps : List Str} {sp : Sp}
    (fn : FunD K nm qual params body scope dv kv f fd) (sc : FnScope N ps scope) (len : ∀ vs H Q E, sp vs H Q E → vs.length = ps.length)
    (go : ∀ (cv : Value) (A : Around) (outer : List Env) (s : Shared) (H : Hp) (vs : List V) (Q : VK) (E : XK), Room n (A.deeper (envOfC qual scope s.heap.objs.size f cv)) → A.guards = some [] → sp vs H Q E →
      ∃ t, PSs (cxOf (L2.CX P w) P w K mg base N qual scope f cv A outer s H E) body t ∧ t { nx := fun _ H' => Q .non H', rt := Q } (start N vs) H) :
    Fk P w K mg base (n + 1) f fd ps sp := by
  constructor
  · exact len
  intro A outer s H args us vs Q E room gu e0 binds r want
  obtain ⟨oc, od, dV, kV, doc, pm, an, cv, ct, osl, rfl, lk, hcd, -, -⟩ := fn.ex
  have kept : ∀ (b : Addr) (o : Obj), base.get? b = some o → s.heap.get? b = some o := fun b o e => (e0.bs b o e).1
  have inK : K.In s.heap := e0.mod.kin.keeps kept
  have kinds : ∀ y ∈ ps.zip us, scope.names.lookup y.1 = some .local ∨
      (scope.names.lookup y.1 = some .cell ∧ ((cellsFrom (s.heap.objs.size + 1) scope.names []).lookup y.1).isSome = true) := by
    intro y hy
    cases sc.par y.1 (List.of_mem_zip (a := y.1) (b := y.2) hy).1 with
    | inl q => exact Or.inl q
    | inr q => exact Or.inr ⟨q, PySem.W.cellsFrom_some _ _ _ (Or.inl q)⟩
  apply codeAny_call_function room.depth (inK _ _ lk) rfl sc.co sc.gen rfl (PySem.W.codeRec_of inK hcd)
  apply binds
  apply wpAny_newFunctionEnv_cells sc.kind kinds
  intro env he s1 x
  subst he
  refine ⟨(e0.mod.nolimit.keeps kept).keeps x.toInCall.keep, codeAny_func ?_⟩
  obtain ⟨t, ht, hq⟩ := go cv A outer s H vs Q E (room.deeper _) gu want
  have inv := inv_start (CX := L2.CX P w) (N := N) (E := E) (mg := mg) (cd := cv) sc room.hd e0 (len _ _ _ _ want) r x
  apply wpAny_mono (ht.run [] s1 (start N vs) H _ inv hq)
  · intro fl s' got
    cases fl with
    | ret u =>
      obtain ⟨v, σ', H', J, rv, q⟩ := got
      exact ⟨v, H', J.os, J.bare, J.base, J.hok, rv, q⟩
    | next =>
      obtain ⟨σ', H', J, q⟩ := got
      exact ⟨.non, H', J.os, J.bare, J.base, J.hok, rfl, q⟩
    | brk => exact got.elim fun _ z => z.elim fun _ z => z.2.elim
    | cont => exact got.elim fun _ z => z.elim fun _ z => z.2.elim
  · exact fun e s' got => got
end

/-- f(..) whose exceptions are wished of by the place where it is called -/
def tCallW (sp : Sp) (W : WX) (t : TA) : TE := fun σ H Q => t σ H fun vs H1 => sp vs H1 Q fun c d H2 => W c d σ H2
section
variable {X : Cx} {W : WX} {n : Nat} {f : Addr} {fd : FuncData} {ps : List Str} {sp : Sp} {x : Str} {p pos : Pos} {e : Expr} {es : List Expr} {t : TA}
theorem call_w (F : Fk X.prog X.w X.K X.mg X.base n f fd ps sp) (hr : Room n X.A) (g : Good X W) (hb : Binds X.K fd ps []) {pins : List (Addr × Obj)} {σ : L2.St} {H : Hp} {s : Shared} {Q : VK} {us : List Value} {vs : List V}
    (I : Inv X pins σ H s) (r : Vals vs us) (h : sp vs H Q fun c d H2 => W c d σ H2) : wpAny (model X.prog X.w) X.A (call (.ref f) us) (EP X pins σ Q) X.xe s := by
  have hl : (us ++ ([] : List Value)).length = ps.length := by
    rw [List.append_nil, ← r.length]
    exact F.len _ _ _ _ h
  have bd := hb s us I.kIn hl
  rw [List.append_nil] at bd
  apply wpAny_call
  apply codeAny_mono (F.run X.A X.stack s H ⟨us, []⟩ us vs Q _ hr g.gu I.env0 bd r h)
  intro res s' got
  cases res with
  | error ev => exact g.tk ev s' (XE.of_call I (fun _ _ _ z => z) got)
  | ok fl =>
    cases fl with
    | ret u => exact I.after got
    | next => exact got.elim
    | brk => exact got.elim
    | cont => exact got.elim
theorem pe_callW (F : Fk X.prog X.w X.K X.mg X.base n f fd ps sp) (hr : Room n X.A) (g : Good X W) (hg : Gl X x) (hm : X.mg x = some (.ref f)) (hk : PySem.W.keepIn X.K (.ref f) = true) (hb : Binds X.K fd ps [])
    (ha : PA X (e :: es) t) (hdb : (x == ("__debug__" : Str)) = false) (he : starEach (e :: es) X.env = (false, eval e X.env) :: starEach es X.env) (hpl : (backTo pos (starEach es X.env)).any (·.1) = false) :
    PE X (.Call (.Name x p) (e :: es) [] pos) (tCallW sp W t) := by
  constructor
  intro pins s σ H Q I h
  apply wpAny_Call_Name_kw
  apply ld_glob I hg hm _ hdb
  apply PySem.W.callWith_K (h₀ := X.base) I.ok.mod.kin hk _ he hpl
  exact thn (ha.run pos pins s σ H _ I h) fun us s1 got => match got with
    | ⟨vs, H1, I1, r, q⟩ => ⟨I1.kIn, call_w F hr g hb I1 r q⟩
theorem pe_callW0 (F : Fk X.prog X.w X.K X.mg X.base n f fd ps sp) (hr : Room n X.A) (g : Good X W) (hg : Gl X x) (hm : X.mg x = some (.ref f)) (hk : PySem.W.keepIn X.K (.ref f) = true) (hb : Binds X.K fd ps [])
    (hdb : (x == ("__debug__" : Str)) = false) : PE X (.Call (.Name x p) [] [] pos) (tCallW sp W tNil) := by
  constructor
  intro pins s σ H Q I h
  apply wpAny_Call_Name_kw
  apply ld_glob I hg hm _ hdb
  exact PySem.W.callWith_K0 I.kIn hk (call_w (us := []) F hr g hb I .nil h)
end

/-! ### what a def's function over data promises -/
/-- a call's wish: of the value, of an exception (no slots) -/
def OutC (K : PySem.W.Frag) (cl : Nat → Addr) (F : Hp) (cs : CS) (r : Res D) (Q : VK) (E : XK) : Prop := match r with
  | .ok d st' => ∀ F' cs' v H', Ext F F' cs cs' → Wd K F' cs' st' H' → Rp K F' cs' d v → Q v H'
  | .ex c st' => ∀ F' cs' H', Ext F F' cs cs' → Wd K F' cs' st' H' → E (.ref (cl c)) none H'
def spD (K : PySem.W.Frag) (cl : Nat → Addr) (ar : Nat) (m : List D → M D) : Sp := fun vs H Q E =>
  vs.length = ar ∧ ∃ F cs ds st r, Wd K F cs st H ∧ RpL K F cs ds vs ∧ m ds st = some r ∧ OutC K cl F cs r Q E
def mCall (m : List D → M D) (a : Rho → M (List D)) : Rho → M D := fun ρ => (a ρ).bind fun ds => m ds
theorem call_read {X : Cx} {cl : Nat → Addr} {W : WX} {ar : Nat} {m : List D → M D} {a : Rho → M (List D)} {σ : L2.St} {H : Hp} {Q : VK} (har : ∀ ds st r, m ds st = some r → ds.length = ar)
    (h : tE X.K cl W (mCall m a) σ H Q) : tCallW (spD X.K cl ar m) W (tA X.K cl W a) σ H Q := by
  obtain ⟨F, cs, ρ, st, z, w, en, hm, o⟩ := h
  refine go w en hm o fun F1 cs1 ds vs st1 H1 e1 w1 en1 r1 h1 o1 => ?_
  refine ⟨by rw [← RpL.length r1]; exact har _ _ _ h1, F1, cs1, ds, st1, z, w1, r1, h1, ?_⟩
  cases z with
  | ok d st' => exact fun F' cs' v H' e w' r => o1 F' cs' v H' e w' r
  | ex c st' =>
    intro F' cs' H' e w'
    exact o1 F' cs' σ H' e w' (en1.mono e)
end MC

/-! MC, part 6: repr; built-ins called by name. -/
namespace MC
open PySem PySem.Spec PyProof.Rows L2

/-! ### data in the heap, for repr -/
mutual
/-- no thing of the store, no class within -/
def D.solid : D → Bool
  | .cell _ => false
  | .ty _ => false
  | .tup l => D.solidL l
  | .lst l => D.solidL l
  | .ro l => D.solidL l
  | .dic _ l => D.solidL l
  | _ => true
def D.solidL : List D → Bool
  | [] => true
  | d :: ds => d.solid && D.solidL ds
end
/-- the modules' table stands in the written part -/
def KMod (K : PySem.W.Frag) : Prop := ∃ o, K.lookup sysModules = some o ∧ o.cls = .type "dict"
section
variable {X : Cx} {pins : List (Addr × Obj)} {σ : L2.St} {H : Hp} {s : Shared}
theorem mod_free (km : KMod X.K) (I : Inv X pins σ H s) : H sysModules = none := by
  obtain ⟨o, e, _⟩ := km
  exact (I.bs _ o (I.ok.mod.kin _ o e)).2
theorem tracked_ne (km : KMod X.K) (I : Inv X pins σ H s) {a : Addr} {u : HO} (h : H a = some u) : a ≠ sysModules := ne_of_none h (mod_free km I)
theorem list_ne (km : KMod X.K) (I : Inv X pins σ H s) {a : Addr} {xs : List V} (h : SqL X.K H a xs) : a ≠ sysModules := by
  rcases h with (h | ⟨o, h⟩) | ⟨o, its, n, hk, hc, _⟩
  · exact tracked_ne km I h
  · exact tracked_ne km I h
  · intro z
    subst z
    obtain ⟨o', e, c⟩ := km
    rw [hk] at e
    cases e
    rw [hc] at c
    exact absurd c (by decide)
theorem keys_read {h : Heap} {P : Program} {w : World} : ∀ {ks : List Key} {ws : List V} {vs : List (Key × Value)} {es : List DictEntry}, KV (ks.zip ws) vs → Pairs (mixKind P w) es vs → ks.length = ws.length →
    ∃ as, ReadsAll h (es.map (·.key)) (ks.map keyPy) as ∧ as = [] ∧ Vals ws (es.map (·.val)) := by
  intro ks
  induction ks with
  | nil =>
    intro ws vs es kv ps hl
    cases ws with
    | nil =>
      cases kv
      cases ps
      exact ⟨[], .nil, rfl, .nil⟩
    | cons _ _ => cases hl
  | cons k ks ih =>
    intro ws vs es kv ps hl
    cases ws with
    | nil => cases hl
    | cons w0 ws =>
      cases kv with
      | cons r t =>
        rename_i q vs
        obtain ⟨qk, qv⟩ := q
        cases ps with
        | cons hk hv pt =>
          rename_i e es
          obtain ⟨as, h1, h2, h3⟩ := ih t pt (by simpa using hl)
          subst h2
          obtain ⟨r1, r2⟩ := r
          have r1' : k = qk := r1
          have hv' : e.val = qv := hv
          have hk' : keyIs qk e.key = true := hk
          have hd : Reads h e.key (keyPy k) [] := by
            rw [r1']
            rcases keyIs_shape hk' with ⟨i, t, e1, e2⟩ | ⟨x, t, e1, e2⟩
            · rw [e1, e2]
              exact .int i t
            · rw [e1, e2]
              exact .str x t
          refine ⟨[], ?_, rfl, ?_⟩
          · exact ReadsAll.cons (as := []) (bs := []) hd h1
          · refine .cons ?_ h3
            show RelV w0 e.val
            rw [hv']
            exact r2
mutual
theorem reads_ok (km : KMod X.K) (I : Inv X pins σ H s) {F : Hp} {cs : CS} (ex : Ext F H cs cs) : ∀ {d : D} {v : V} {u : Value}, Rp X.K F cs d v → RelV v u → d.solid = true → ∃ as, Reads s.heap u d.py as ∧ sysModules ∉ as
  | _, _, _, .non, r, _ => by
    cases r
    unfold D.py
    exact ⟨_, .none, by simp⟩
  | _, _, _, .bl b, r, _ => by
    cases r
    unfold D.py
    exact ⟨_, .bool b, by simp⟩
  | _, _, _, .int i, r, _ => by
    obtain ⟨t, rfl⟩ := r
    unfold D.py
    exact ⟨_, .int i t, by simp⟩
  | _, _, _, .str x, r, _ => by
    obtain ⟨t, rfl⟩ := r
    unfold D.py
    exact ⟨_, .str x t, by simp⟩
  | _, _, _, .tup hs q, r, h => by
    cases r
    unfold D.solid at h
    unfold D.py
    obtain ⟨its, rv, ⟨o, ho, hc, n, hd⟩, _⟩ := I.tuple (ex.sqT hs)
    obtain ⟨as, h1, h2⟩ := readsL_ok km I ex q rv h
    exact ⟨_, .tuple ho hc hd (by simpa using h1), h2⟩
  | _, _, _, .lst hs q, r, h => by
    cases r
    unfold D.solid at h
    unfold D.py
    have hS : SqL X.K H _ _ := .inl (.inl (ex.hp _ _ hs))
    obtain ⟨its, rv, ⟨o, n, ho, hc, _, hd⟩, _⟩ := I.list hS
    obtain ⟨as, h1, h2⟩ := readsL_ok km I ex q rv h
    exact ⟨_, .list ho hc hd (by simpa using h1), by simp only [List.mem_cons, not_or]; exact ⟨(list_ne km I hS).symm, h2⟩⟩
  | _, _, _, .ro hs q, r, h => by
    cases r
    unfold D.solid at h
    unfold D.py
    have hS := ex.sqL hs
    obtain ⟨its, rv, ⟨o, n, ho, hc, _, hd⟩, _⟩ := I.list hS
    obtain ⟨as, h1, h2⟩ := readsL_ok km I ex q rv h
    exact ⟨_, .list ho hc hd (by simpa using h1), by simp only [List.mem_cons, not_or]; exact ⟨(list_ne km I hS).symm, h2⟩⟩
  | _, _, _, .dic (ks := ks) (vs := vs) hs z q, r, h => by
    cases r
    unfold D.solid at h
    unfold D.py
    obtain ⟨_, hne, ws, kv, o, es, ep, ho, hx, hd, _, ps, _⟩ := I.hok _ _ (ex.hp _ _ hs)
    obtain ⟨as, h1, h2, h3⟩ := keys_read (h := s.heap) kv ps z
    subst h2
    obtain ⟨bs, h4, h5⟩ := readsL_ok km I ex q h3 h
    have e1 : (ks.map keyPy).length = (D.pyL vs).length := by
      rw [List.length_map, pyL_map, List.length_map, z, q.length]
    refine ⟨_, .dict ho hx.1 hd (as := []) ?_ (bs := bs) ?_, ?_⟩
    · rw [List.map_fst_zip (Nat.le_of_eq e1)]
      exact h1
    · rw [List.map_snd_zip (Nat.le_of_eq e1.symm)]
      exact h4
    · simp only [List.append_nil, List.mem_append, List.mem_cons, not_or]
      exact ⟨⟨(tracked_ne km I (ex.hp _ _ hs)).symm, by simp⟩, h5⟩
  | _, _, _, .cell _, _, h => by unfold D.solid at h; cases h
  | _, _, _, .ty _, _, h => by unfold D.solid at h; cases h
theorem readsL_ok (km : KMod X.K) (I : Inv X pins σ H s) {F : Hp} {cs : CS} (ex : Ext F H cs cs) : ∀ {d : List D} {v : List V} {u : List Value}, RpL X.K F cs d v → Vals v u → D.solidL d = true → ∃ as, ReadsAll s.heap u (D.pyL d) as ∧ sysModules ∉ as
  | _, _, _, .nil, r, _ => by
    cases r
    unfold D.pyL
    exact ⟨_, .nil, by simp⟩
  | _, _, _, .cons q t, r, h => by
    cases r with
    | cons r1 r2 =>
      unfold D.solidL at h
      rw [Bool.and_eq_true] at h
      unfold D.pyL
      obtain ⟨as, h1, h2⟩ := reads_ok km I ex q r1 h.1
      obtain ⟨bs, h3, h4⟩ := readsL_ok km I ex t r2 h.2
      exact ⟨_, .cons h1 h3, by simp only [List.mem_append, not_or]; exact ⟨h2, h4⟩⟩
end
/-- .. of a value seen -/
theorem readsS_ok (km : KMod X.K) (I : Inv X pins σ H s) {F : Hp} {cs : CS} (ex : Ext F H cs cs) {d : D} {v : V} {u : Value} (rs : Rs X.K F H cs d v) (r : RelV v u) (h : d.solid = true) : ∃ as, Reads s.heap u d.py as ∧ sysModules ∉ as := by
  cases rs with
  | non => exact reads_ok km I ex (.non (cs := cs)) r h
  | bl b => exact reads_ok km I ex (.bl (cs := cs) b) r h
  | int i => exact reads_ok km I ex (.int (cs := cs) i) r h
  | str x => exact reads_ok km I ex (.str (cs := cs) x) r h
  | tup s' q => exact reads_ok km I ex (.tup s' q) r h
  | ro s' q => exact reads_ok km I ex (.ro s' q) r h
  | lst s' q =>
    have q' := q.mono ex
    exact reads_ok (F := H) km I ⟨fun _ _ z => z, fun _ _ z => z, rfl⟩ (.lst s' q') r h
  | dic s' z q => exact reads_ok (F := H) km I ⟨fun _ _ z => z, fun _ _ z => z, rfl⟩ (.dic s' z (q.mono ex)) r h
  | ty n => unfold D.solid at h; cases h
end
section
variable {prog : Program} {w : World} {A : Around} {E : Value → Shared → Prop} {s : Shared}
/-- repr(v) of data -/
theorem repr_call {v : Value} {d : PyData} {as : List Addr} (r : Reads s.heap v d as) (hs : d.showable = true) (hm : sysModules ∉ as) (hz : d.shown.length ≤ sizeLine) (hg : A.guards = some []) (hu : A.units + 1 + d.depth < cLine) {Q : Value → Shared → Prop}
    (hQ : ∀ h' t tk, (∀ b o, s.heap.get? b = some o → h'.get? b = some o) → Q (.str d.shown t) { s with heap := h', toks := tk }) : wpAny (model prog w) A (call (.builtin "repr") [v]) Q E s := by
  have hg1 : A.in1.guards = some [] := hg
  cases r with
  | none =>
    simp only [PyData.shown] at hQ
    exact P.repr_of_none (hQ s.heap _ _ fun _ _ e => e)
  | bool b =>
    simp only [PyData.shown] at hQ
    exact P.repr_of_bool (hQ s.heap _ _ fun _ _ e => e)
  | int i t =>
    simp only [PyData.shown] at hQ
    exact P.repr_of_int (by simpa [PyData.showable] using hs) (hQ s.heap _ _ fun _ _ e => e)
  | str x t =>
    simp only [PyData.shown] at hQ hz
    exact P.repr_of_str (hQ s.heap _ _ fun _ _ e => e) hz
  | @list a o vs n xs as h1 h2 h3 h4 =>
    have r0 : Reads s.heap (.ref a) (.list xs) (a :: as) := .list h1 h2 h3 h4
    simp only [PyData.shown] at hQ hz
    simp only [PyData.depth] at hu
    simp only [PyData.showable] at hs
    obtain ⟨bs, hb, hk⟩ := ReprAllK.of_readsAll (prog := prog) (w := w) h4 hs (fun _ m => hm (List.mem_cons_of_mem _ m)) fun t ht => Nat.le_trans (listText_mem_le ht) hz
    have hna : a ∉ bs := not_mem_of_deeper r0 (by simp only [PyData.depth]; omega) hb
    have ty : s.TypeIs (.ref a) "list" := ⟨o, h1, h2⟩
    apply call_repr_slot (T := "list") (by omega) ty F.slot_list_repr.toG
    obtain ⟨l⟩ := vs
    cases l with
    | nil =>
      cases h4
      simp only [PyData.shownAll, listText_nil] at hQ
      exact call_list_repr_empty ⟨o, h1, h2⟩ h1 h3 ⟨_, _, rfl, hQ s.heap _ _ fun _ _ e => e⟩
    | cons x l =>
      exact call_list_reprK h1 h2 h3 hna (by simpa using hk.length_eq) (fun i y e => hk.item i y (by simpa using e)) hg1 (fun b _ => Clear.nil b) (by show A.units + 1 + _ < _; omega) (fun _ _ e => e) (fun h' u tk kp => ⟨_, _, rfl, hQ h' u tk kp⟩) hz
  | @tuple a o vs n xs as h1 h2 h3 h4 =>
    have r0 : Reads s.heap (.ref a) (.tuple xs) as := .tuple h1 h2 h3 h4
    simp only [PyData.shown] at hQ hz
    simp only [PyData.depth] at hu
    simp only [PyData.showable] at hs
    obtain ⟨bs, hb, hk⟩ := ReprAllK.of_readsAll (prog := prog) (w := w) h4 hs (fun _ m => hm m) fun t ht => Nat.le_trans (tupleText_mem_le ht) hz
    have hna : a ∉ bs := not_mem_of_deeper r0 (by simp only [PyData.depth]; omega) hb
    have ty : s.TypeIs (.ref a) "tuple" := ⟨o, h1, h2⟩
    apply call_repr_slot (T := "tuple") (by omega) ty F.slot_tuple_repr
    exact call_tuple_reprK h1 h2 h3 hna hk hg1 (fun b _ => Clear.nil b) (by show A.units + 1 + _ < _; omega) (fun _ _ e => e) (fun h' u tk kp => ⟨_, _, rfl, hQ h' u tk kp⟩) hz
  | @dict a o es n kvs as1 bs1 h1 h2 h3 h4 h5 =>
    have r0 : Reads s.heap (.ref a) (.dict kvs) (a :: as1 ++ bs1) := .dict h1 h2 h3 h4 h5
    simp only [PyData.shown] at hQ hz
    simp only [PyData.depth] at hu
    simp only [PyData.showable] at hs
    obtain ⟨s1, s2⟩ := PyData.showableKv_split kvs hs
    obtain ⟨b1, hb1, k1⟩ := ReprAllK.of_readsAll (prog := prog) (w := w) h4 s1 (fun _ m => hm (List.mem_append_left _ (List.mem_cons_of_mem _ m))) fun t ht => (PyData.shownKv_key_le kvs t ht).elim fun p q => Nat.le_trans q.2 (Nat.le_trans (dictText_mem_le q.1) hz)
    obtain ⟨b2, hb2, k2⟩ := ReprAllK.of_readsAll (prog := prog) (w := w) h5 s2 (fun _ m => hm (List.mem_append_right _ m)) fun t ht => (PyData.shownKv_val_le kvs t ht).elim fun p q => Nat.le_trans q.2 (Nat.le_trans (dictText_mem_le q.1) hz)
    have d1 := PyData.depthAll_keys_le kvs
    have d2 := PyData.depthAll_vals_le kvs
    have hna : a ∉ b1 ++ b2 := not_mem_of_deeper r0 (n := PyData.depthKv kvs) (by simp only [PyData.depth]; omega) ((hb1.mono d1).append (hb2.mono d2))
    have hsys : (a == sysModules) = false := beq_eq_false_iff_ne.mpr fun e => hm (e ▸ List.mem_append_left _ (List.mem_cons_self ..))
    rw [PyData.shownKv_eq] at hQ hz
    have ty : s.TypeIs (.ref a) "dict" := ⟨o, h1, h2⟩
    apply call_repr_slot (T := "dict") (by omega) ty F.slot_dict_repr
    exact call_dict_reprK (as := b1 ++ b2) (d := PyData.depthKv kvs) h1 h2 h3 hsys hna (ReprEntriesK.of_two es.toList _ _ (k1.more_le (fun b hb => List.mem_append_left _ hb) d1) (k2.more_le (fun b hb => List.mem_append_right _ hb) d2))
      hg1 (fun b _ => Clear.nil b) (by show A.units + 1 + _ < _; omega) (fun _ _ e => e) (fun h' u tk kp => ⟨_, _, rfl, hQ h' u tk kp⟩) hz
end
end MC

/-! MC, part 7: built-ins called by name, with plain arguments. -/
namespace MC
open PySem PySem.Spec PyProof.Rows L2

def RC (K : PySem.W.Frag) (cl : Nat → Addr) (f : List D → M D) (r : List V → Hp → VK → Prop) : Prop :=
  ∀ (W : WX) (ρ : Rho) (F : Hp) (cs : CS) (st : Sto) (H : Hp) (ds : List D) (vs : List V) (z : Res D) (Q : VK), Wd K F cs st H → RpL K F cs ds vs → f ds st = some z → Out K cl W ρ (repV K) F cs z Q → r vs H Q
/-- one argument, seen -/
def one1 (f : D → M D) : List D → M D
  | [x] => fun st => match x.see st with
    | some y => f y st
    | none => none
  | _ => M.no
theorem one_ok {K : PySem.W.Frag} {cl : Nat → Addr} {f : D → M D} {r : List V → Hp → VK → Prop}
    (h : ∀ (W : WX) (ρ : Rho) (F : Hp) (cs : CS) (st : Sto) (H : Hp) (d : D) (v : V) (z : Res D) (Q : VK), Wd K F cs st H → Rs K F H cs d v → f d st = some z → Out K cl W ρ (repV K) F cs z Q → r [v] H Q) : RC K cl (one1 f) r := by
  intro W ρ F cs st H ds vs z Q w rs hf o
  cases rs with
  | nil => cases hf
  | cons r1 t =>
    cases t with
    | cons _ _ => cases hf
    | nil =>
      rename_i d v
      unfold one1 at hf
      simp only at hf
      cases e : d.see st with
      | none => rw [e] at hf; cases hf
      | some y =>
        rw [e] at hf
        exact h W ρ F cs st H y v z Q w (see_ok w r1 e) hf o
section
variable {K : PySem.W.Frag} {cl : Nat → Addr}
/-- len -/
def lenF : D → M D
  | .str x => if x.length ≤ LIM then M.ret (.int (x.length : Int)) else M.no
  | .tup l => M.ret (.int (l.length : Int))
  | .lst l => M.ret (.int (l.length : Int))
  | .ro l => M.ret (.int (l.length : Int))
  | _ => M.no
def rLenD (K : PySem.W.Frag) : List V → Hp → VK → Prop := fun xs H Q => ∃ x n, xs = [x] ∧ LenV K x H n ∧ Q (.int n) H
theorem len_ok : RC K cl (one1 lenF) (rLenD K) := one_ok fun W ρ F cs st H d v z Q w rs hf o => by
  cases rs with
  | str x =>
    obtain ⟨hc, hf⟩ := ite_ret hf
    cases some_ret hf
    exact ⟨_, _, rfl, ⟨Nat.le_trans hc LIM_le, rfl⟩, o.val w (.int _)⟩
  | tup s r => cases some_ret hf; rw [r.length] at o; exact ⟨_, _, rfl, .inr ⟨_, w.ext.sqT s, rfl⟩, o.val w (.int _)⟩
  | lst s r => cases some_ret hf; rw [r.length] at o; exact ⟨_, _, rfl, .inl ⟨_, .inl (.inl s), rfl⟩, o.val w (.int _)⟩
  | ro s r => cases some_ret hf; rw [r.length] at o; exact ⟨_, _, rfl, .inl ⟨_, w.ext.sqL s, rfl⟩, o.val w (.int _)⟩
  | _ => cases hf
/-- list, tuple of a list or tuple -/
def listF : D → M D
  | .tup l => M.ret (.lst l)
  | .lst l => M.ret (.lst l)
  | .ro l => M.ret (.lst l)
  | _ => M.no
def rListD (K : PySem.W.Frag) : List V → Hp → VK → Prop := fun xs H Q => ∃ p ys, xs = [.ref p] ∧ (SqL K H p ys ∨ SqT K H p ys) ∧ ∀ l, H l = none → Q (.ref l) (upd H l (.lst ys))
theorem list_ok : RC K cl (one1 listF) (rListD K) := one_ok fun W ρ F cs st H d v z Q w rs hf o => by
  cases rs with
  | tup s r => cases some_ret hf; exact ⟨_, _, rfl, .inr (w.ext.sqT s), fun p hp => o.new w hp (.lst upd_same (r.mono (w.new hp).1))⟩
  | lst s r => cases some_ret hf; exact ⟨_, _, rfl, .inl (.inl (.inl s)), fun p hp => o.new w hp (.lst upd_same (r.mono (w.new hp).1))⟩
  | ro s r => cases some_ret hf; exact ⟨_, _, rfl, .inl (w.ext.sqL s), fun p hp => o.new w hp (.lst upd_same (r.mono (w.new hp).1))⟩
  | _ => cases hf
def tupleF : D → M D
  | .tup l => M.ret (.tup l)
  | .lst l => M.ret (.tup l)
  | .ro l => M.ret (.tup l)
  | _ => M.no
def rTupleD (K : PySem.W.Frag) : List V → Hp → VK → Prop := fun xs H Q => ∃ p ys, xs = [.ref p] ∧ ((SqL K H p ys ∧ ∀ l, H l = none → Q (.ref l) (upd H l (.tup ys))) ∨ (SqT K H p ys ∧ Q (.ref p) H))
theorem tuple_ok : RC K cl (one1 tupleF) (rTupleD K) := one_ok fun W ρ F cs st H d v z Q w rs hf o => by
  cases rs with
  | tup s r => cases some_ret hf; exact ⟨_, _, rfl, .inr ⟨w.ext.sqT s, o.val w (.tup s r)⟩⟩
  | lst s r => cases some_ret hf; exact ⟨_, _, rfl, .inl ⟨.inl (.inl s), fun p hp => o.new w hp (.tup (.inl (.inl upd_same)) (r.mono (w.new hp).1))⟩⟩
  | ro s r => cases some_ret hf; exact ⟨_, _, rfl, .inl ⟨w.ext.sqL s, fun p hp => o.new w hp (.tup (.inl (.inl upd_same)) (r.mono (w.new hp).1))⟩⟩
  | _ => cases hf
/-- all, any of a list of truths; sum, max, min of one of numbers -/
def blsOf : List D → Option (List Bool)
  | [] => some []
  | .bl b :: l => (blsOf l).map (b :: ·)
  | _ :: _ => none
def intsOf : List D → Option (List Int)
  | [] => some []
  | .int b :: l => (intsOf l).map (b :: ·)
  | _ :: _ => none
theorem bls_rep {F : Hp} {cs : CS} : ∀ {l : List D} {vs : List V} {bs : List Bool}, RpL K F cs l vs → blsOf l = some bs → vs = bs.map V.bl
  | _, _, _, .nil, h => by cases h; rfl
  | d :: l, _, bs, .cons r t, h => by
    cases d with
    | bl b =>
      have h' : (blsOf l).map (b :: ·) = some bs := h
      obtain ⟨bs', e, rfl⟩ := Option.map_eq_some_iff.mp h'
      cases r
      rw [bls_rep t e]
      rfl
    | _ => cases h
theorem ints_rep {F : Hp} {cs : CS} : ∀ {l : List D} {vs : List V} {bs : List Int}, RpL K F cs l vs → intsOf l = some bs → vs = bs.map V.int
  | _, _, _, .nil, h => by cases h; rfl
  | d :: l, _, bs, .cons r t, h => by
    cases d with
    | int b =>
      have h' : (intsOf l).map (b :: ·) = some bs := h
      obtain ⟨bs', e, rfl⟩ := Option.map_eq_some_iff.mp h'
      cases r
      rw [ints_rep t e]
      rfl
    | _ => cases h
def blsF (g : List Bool → Bool) : D → M D
  | .lst l => M.opt ((blsOf l).map fun bs => .bl (g bs))
  | _ => M.no
theorem bls_ok (g : List Bool → Bool) : RC K cl (one1 (blsF g)) (fun vs H Q => ∃ (a : Addr) (bs : List Bool), vs = [V.ref a] ∧ SqL K H a (bs.map V.bl) ∧ Q (.bl (g bs)) H) := one_ok fun W ρ F cs st H d v z Q w rs hf o => by
  cases rs with
  | @lst a vs l s r =>
    unfold blsF at hf
    simp only at hf
    cases e : blsOf l with
    | none => rw [e] at hf; cases hf
    | some bs =>
      rw [e] at hf
      cases some_ret hf
      rw [bls_rep r e] at s
      exact ⟨a, bs, rfl, .inl (.inl s), o.val w (.bl _)⟩
  | _ => cases hf
def sumF : D → M D
  | .lst l => M.opt ((intsOf l).map fun bs => .int bs.sum)
  | _ => M.no
theorem sum_ok : RC K cl (one1 sumF) (rSum K) := one_ok fun W ρ F cs st H d v z Q w rs hf o => by
  cases rs with
  | @lst a vs l s r =>
    unfold sumF at hf
    simp only at hf
    cases e : intsOf l with
    | none => rw [e] at hf; cases hf
    | some bs =>
      rw [e] at hf
      cases some_ret hf
      rw [ints_rep r e] at s
      exact ⟨a, bs, rfl, .inl (.inl s), o.val w (.int _)⟩
  | _ => cases hf
def maxL : List Int → Option Int
  | [] => none
  | i :: l => some (l.foldl max i)
def minL : List Int → Option Int
  | [] => none
  | i :: l => some (l.foldl min i)
theorem foldl_max : ∀ (l : List Int) (i : Int), (l.foldl max i = i ∨ l.foldl max i ∈ l) ∧ i ≤ l.foldl max i ∧ ∀ y ∈ l, y ≤ l.foldl max i
  | [], i => ⟨.inl rfl, Int.le_refl i, fun _ h => by cases h⟩
  | j :: l, i => by
    obtain ⟨h1, h2, h3⟩ := foldl_max l (max i j)
    rw [List.foldl_cons]
    refine ⟨?_, by omega, fun y hy => ?_⟩
    · rcases h1 with h1 | h1
      · rw [h1]
        rcases Int.le_total i j with h | h
        · rw [Int.max_eq_right h]; exact .inr List.mem_cons_self
        · rw [Int.max_eq_left h]; exact .inl rfl
      · exact .inr (List.mem_cons_of_mem _ h1)
    · rcases List.mem_cons.mp hy with rfl | hy
      · omega
      · exact h3 y hy
theorem foldl_min : ∀ (l : List Int) (i : Int), (l.foldl min i = i ∨ l.foldl min i ∈ l) ∧ l.foldl min i ≤ i ∧ ∀ y ∈ l, l.foldl min i ≤ y
  | [], i => ⟨.inl rfl, Int.le_refl i, fun _ h => by cases h⟩
  | j :: l, i => by
    obtain ⟨h1, h2, h3⟩ := foldl_min l (min i j)
    rw [List.foldl_cons]
    refine ⟨?_, by omega, fun y hy => ?_⟩
    · rcases h1 with h1 | h1
      · rw [h1]
        rcases Int.le_total i j with h | h
        · rw [Int.min_eq_left h]; exact .inl rfl
        · rw [Int.min_eq_right h]; exact .inr List.mem_cons_self
      · exact .inr (List.mem_cons_of_mem _ h1)
    · rcases List.mem_cons.mp hy with rfl | hy
      · omega
      · exact h3 y hy
def maxF : D → M D
  | .lst l => M.opt (((intsOf l).bind maxL).map D.int)
  | _ => M.no
theorem max_ok : RC K cl (one1 maxF) (rMax K) := one_ok fun W ρ F cs st H d v z Q w rs hf o => by
  cases rs with
  | @lst a vs l s r =>
    unfold maxF at hf
    simp only at hf
    cases e : intsOf l with
    | none => rw [e] at hf; cases hf
    | some bs =>
      rw [e] at hf
      cases bs with
      | nil => cases hf
      | cons i bs =>
        cases some_ret hf
        rw [ints_rep r e] at s
        obtain ⟨h1, h2, h3⟩ := foldl_max bs i
        refine ⟨a, i :: bs, rfl, .inl (.inl s), Nat.succ_pos _, fun m hm hy => ?_⟩
        have e1 : m ≤ bs.foldl max i := by
          rcases List.mem_cons.mp hm with rfl | hm
          · exact h2
          · exact h3 m hm
        have e2 : bs.foldl max i ≤ m := by
          rcases h1 with h1 | h1
          · rw [h1]; exact hy i List.mem_cons_self
          · exact hy _ (List.mem_cons_of_mem _ h1)
        have e3 : m = bs.foldl max i := by omega
        rw [e3]
        exact o.val w (.int _)
  | _ => cases hf
def minF : D → M D
  | .lst l => M.opt (((intsOf l).bind minL).map D.int)
  | _ => M.no
theorem min_ok : RC K cl (one1 minF) (rMin K) := one_ok fun W ρ F cs st H d v z Q w rs hf o => by
  cases rs with
  | @lst a vs l s r =>
    unfold minF at hf
    simp only at hf
    cases e : intsOf l with
    | none => rw [e] at hf; cases hf
    | some bs =>
      rw [e] at hf
      cases bs with
      | nil => cases hf
      | cons i bs =>
        cases some_ret hf
        rw [ints_rep r e] at s
        obtain ⟨h1, h2, h3⟩ := foldl_min bs i
        refine ⟨a, i :: bs, rfl, .inl (.inl s), Nat.succ_pos _, fun m hm hy => ?_⟩
        have e1 : bs.foldl min i ≤ m := by
          rcases List.mem_cons.mp hm with rfl | hm
          · exact h2
          · exact h3 m hm
        have e2 : m ≤ bs.foldl min i := by
          rcases h1 with h1 | h1
          · rw [h1]; exact hy i List.mem_cons_self
          · exact hy _ (List.mem_cons_of_mem _ h1)
        have e3 : m = bs.foldl min i := by omega
        rw [e3]
        exact o.val w (.int _)
  | _ => cases hf
/-- int of a number, a truth -/
def intOf : D → M D
  | .int i => M.ret (.int i)
  | .bl b => M.ret (.int (if b then 1 else 0))
  | _ => M.no
theorem int1_ok : RC K cl (one1 intOf) (fun xs H Q => (∃ i, xs = [.int i] ∧ Q (.int i) H) ∨ ∃ k, xs = [.bl k] ∧ Q (.int (if k then 1 else 0)) H) := one_ok fun W ρ F cs st H d v z Q w rs hf o => by
  cases rs with
  | int i => cases some_ret hf; exact .inl ⟨_, rfl, o.val w (.int _)⟩
  | bl i => cases some_ret hf; exact .inr ⟨_, rfl, o.val w (.int _)⟩
  | _ => cases hf
/-- max, min of two numbers -/
def max2F : List D → M D
  | [.int i, .int j] => M.ret (.int (max i j))
  | _ => M.no
def min2F : List D → M D
  | [.int i, .int j] => M.ret (.int (min i j))
  | _ => M.no
theorem max2_ok : RC K cl max2F (fun xs H Q => ∃ i j, xs = [.int i, .int j] ∧ Q (.int (if j > i then j else i)) H) := by
  intro W ρ F cs st H ds vs z Q w rs hf o
  unfold max2F at hf
  split at hf
  · rename_i i j
    cases rs with
    | cons r1 t =>
      cases t with
      | cons r2 t =>
        cases t
        cases r1
        cases r2
        cases some_ret hf
        have e : (if j > i then j else i) = max i j := by split <;> omega
        refine ⟨i, j, rfl, ?_⟩
        rw [e]
        exact o.val w (.int _)
  · cases hf
theorem min2_ok : RC K cl min2F (fun xs H Q => ∃ i j, xs = [.int i, .int j] ∧ Q (.int (if j < i then j else i)) H) := by
  intro W ρ F cs st H ds vs z Q w rs hf o
  unfold min2F at hf
  split at hf
  · rename_i i j
    cases rs with
    | cons r1 t =>
      cases t with
      | cons r2 t =>
        cases t
        cases r1
        cases r2
        cases some_ret hf
        have e : (if j < i then j else i) = min i j := by split <;> omega
        refine ⟨i, j, rfl, ?_⟩
        rw [e]
        exact o.val w (.int _)
  · cases hf
/-- isinstance(x, T) -/
def D.tyN : D → Option String
  | .non => some "NoneType"
  | .bl _ => some "bool"
  | .int _ => some "int"
  | .str _ => some "str"
  | .tup _ => some "tuple"
  | .lst _ => some "list"
  | .ro _ => some "list"
  | .dic _ _ => some "dict"
  | _ => none
def tyNames : List String := ["NoneType", "bool", "int", "str", "tuple", "list", "dict"]
def subT (a b : String) : Bool := a == b || (a == "bool" && b == "int")
theorem kit_tab : ∀ a ∈ tyNames, ∀ b ∈ tyNames, kitB a b = some (subT a b) := by decide +kernel
def isaF : List D → M D
  | [x, .ty n] => fun st => match x.see st with
    | some y => (match y.tyN with
      | some t => if n ∈ tyNames then M.ret (.bl (subT t n)) st else none
      | none => none)
    | none => none
  | _ => M.no
theorem tyN_mem {d : D} {t : String} (h : d.tyN = some t) : t ∈ tyNames := by
  cases d <;> first | (cases h; decide) | cases h
theorem tyX_ok {F H : Hp} {cs : CS} {st : Sto} {d : D} {v : V} {t : String} (w : Wd K F cs st H) (rs : Rs K F H cs d v) (h : d.tyN = some t) : TyX K H v (.type t) := by
  cases rs with
  | non => cases h; exact .base .non
  | bl b => cases h; exact .base (.bl b)
  | int b => cases h; exact .base (.int b)
  | str b => cases h; exact .base (.str b)
  | tup s r =>
    cases h
    rcases w.ext.sqT s with (s | ⟨o, s⟩) | ⟨o, its, n, hk, hc, _⟩
    · exact .base (.tup s)
    · exact .fTuple s
    · exact .kTuple hk hc
  | lst s r => cases h; exact .base (.lst s)
  | ro s r =>
    cases h
    rcases w.ext.sqL s with (s | ⟨o, s⟩) | ⟨o, its, n, hk, hc, _⟩
    · exact .base (.lst s)
    · exact .base (.frz s)
    · exact .kList hk hc
  | dic s z r => cases h; exact .base (.dK s)
  | ty n => cases h
theorem isa_ok : RC K cl isaF (rIsi K) := by
  intro W ρ F cs st H ds vs z Q w rs hf o
  unfold isaF at hf
  split at hf
  · rename_i x n
    cases rs with
    | cons r1 t =>
      cases t with
      | cons r2 t =>
        cases t
        cases r2
        cases e : x.see st with
        | none => rw [e] at hf; cases hf
        | some y =>
          rw [e] at hf
          simp only at hf
          cases q : y.tyN with
          | none => rw [q] at hf; cases hf
          | some t =>
            rw [q] at hf
            simp only at hf
            by_cases hn : n ∈ tyNames
            · rw [if_pos hn] at hf
              cases some_ret hf
              exact ⟨_, _, _, _, subT t n, rfl, .ty n, tyX_ok w (see_ok w r1 e) q, kit_ty (kit_tab t (tyN_mem q) n hn), o.val w (.bl _)⟩
            · rw [if_neg hn] at hf
              cases hf
  · cases hf
/-- repr -/
def D.showB (d : D) : Bool := d.solid && (d.py.showable && (decide (d.py.shown.length ≤ LIM) && decide (d.py.depth ≤ 60)))
def reprF : D → M D := fun d => if d.showB = true then M.ret (.str d.py.shown) else M.no
def rReprD (K : PySem.W.Frag) : List V → Hp → VK → Prop := fun xs H Q => ∃ v d, xs = [v] ∧ d.showB = true ∧ (∃ F cs, Ext F H cs cs ∧ Rs K F H cs d v) ∧ Q (.str d.py.shown) H
theorem repr_ok : RC K cl (one1 reprF) (rReprD K) := one_ok fun W ρ F cs st H d v z Q w rs hf o => by
  obtain ⟨hc, hf⟩ := ite_ret hf
  cases some_ret hf
  exact ⟨v, d, rfl, hc, ⟨F, cs, w.ext, rs⟩, o.val w (.str _)⟩
theorem call_repr {X : Cx} (km : KMod X.K) (gu : X.A.guards = some []) (hu : X.A.units + 100 < cLine) : CallR X (.builtin "repr") (rReprD X.K) := by
  intro pins s σ H xs us Q I r h
  obtain ⟨v, d, rfl, hc, ⟨F, cs, ex, rs⟩, q⟩ := h
  obtain ⟨u, rfl, ru⟩ := vals1 r
  unfold D.showB at hc
  rw [Bool.and_eq_true, Bool.and_eq_true, Bool.and_eq_true, decide_eq_true_eq, decide_eq_true_eq] at hc
  obtain ⟨h1, h2, h3, h4⟩ := hc
  obtain ⟨as, rd, nm⟩ := readsS_ok km I ex rs ru h1
  exact repr_call rd h2 nm (Nat.le_trans h3 LIM_le) gu (by omega) fun h' t tk kp => ⟨.str _, H, I.kept kp, ⟨_, rfl⟩, q⟩
end

/-- built-ins -/
inductive Prim where
  | len | list | tuple | all | any | sum | max | min | int | max2 | min2 | isa | repr
  deriving DecidableEq
def Prim.name : Prim → Str
  | .len => "len"
  | .list => "list"
  | .tuple => "tuple"
  | .all => "all"
  | .any => "any"
  | .sum => "sum"
  | .max => "max"
  | .min => "min"
  | .int => "int"
  | .max2 => "max"
  | .min2 => "min"
  | .isa => "isinstance"
  | .repr => "repr"
def Prim.f : Prim → List D → M D
  | .len => one1 lenF
  | .list => one1 listF
  | .tuple => one1 tupleF
  | .all => one1 (blsF fun bs => bs.all id)
  | .any => one1 (blsF fun bs => bs.any id)
  | .sum => one1 sumF
  | .max => one1 maxF
  | .min => one1 minF
  | .int => one1 intOf
  | .max2 => max2F
  | .min2 => min2F
  | .isa => isaF
  | .repr => one1 reprF
def mPrim (p : Prim) (a : Rho → M (List D)) : Rho → M D := fun ρ => (a ρ).bind p.f
theorem prim_read {K : PySem.W.Frag} {cl : Nat → Addr} {W : WX} {f : List D → M D} {r : List V → Hp → VK → Prop} {a : Rho → M (List D)} (hf : RC K cl f r) {σ : L2.St} {H : Hp} {Q : VK} (h : tE K cl W (fun ρ => (a ρ).bind f) σ H Q) : tCB r (tA K cl W a) σ H Q := by
  obtain ⟨F, cs, ρ, st, z, w, en, hm, o⟩ := h
  refine go w en hm o fun F1 cs1 ds vs st1 H1 e1 w1 en1 r1 h1 o1 => ?_
  exact hf W ρ F1 cs1 st1 H1 ds vs z Q w1 r1 h1 o1
section
variable {X : Cx} {cl : Nat → Addr} {W : WX} {e : Expr} {es : List Expr} {ma : Rho → M (List D)} {pp pos : Pos}
theorem se_prim (g : Good X W) (km : KMod X.K) (p : Prim) (hg : Gl X p.name) (hm : X.mg p.name = none) (ha : PA X (e :: es) (tA X.K cl W ma)) (he : starEach (e :: es) X.env = (false, eval e X.env) :: starEach es X.env) (hpl : (backTo pos (starEach es X.env)).any (·.1) = false) :
    PE X (.Call (.Name p.name pp) (e :: es) [] pos) (tE X.K cl W (mPrim p ma)) := by
  cases p with
  | len => exact PE.weak (pe_callB call_len hg hm PySem.boot_len ha (by decide) (by decide) he hpl) fun σ H Q h => prim_read len_ok h
  | list => exact PE.weak (pe_callTy call_list_of hg hm PyProof.Rows.boot_list ha (by decide) (by decide) he hpl) fun σ H Q h => prim_read list_ok h
  | tuple => exact PE.weak (pe_callTy call_tuple_of hg hm PyProof.Rows.boot_tuple ha (by decide) (by decide) he hpl) fun σ H Q h => prim_read tuple_ok h
  | all => exact PE.weak (pe_callB (cr_all g.calm) hg hm PyProof.Rows.boot_all ha (by decide) (by decide) he hpl) fun σ H Q h => prim_read (bls_ok _) h
  | any => exact PE.weak (pe_callB (cr_any g.calm) hg hm PyProof.Rows.boot_any ha (by decide) (by decide) he hpl) fun σ H Q h => prim_read (bls_ok _) h
  | sum => exact PE.weak (pe_callB (cr_sum g.calm) hg hm PyProof.Rows.boot_sum ha (by decide) (by decide) he hpl) fun σ H Q h => prim_read sum_ok h
  | max => exact PE.weak (pe_callB (cr_max g.calm) hg hm PyProof.Rows.boot_max ha (by decide) (by decide) he hpl) fun σ H Q h => prim_read max_ok h
  | min => exact PE.weak (pe_callB (cr_min g.calm) hg hm PyProof.Rows.boot_min ha (by decide) (by decide) he hpl) fun σ H Q h => prim_read min_ok h
  | int => exact PE.weak (pe_callTy call_int1 hg hm PyProof.Rows.boot_int ha (by decide) (by decide) he hpl) fun σ H Q h => prim_read int1_ok h
  | max2 => exact PE.weak (pe_callB (call_max2 g.calm) hg hm PyProof.Rows.boot_max ha (by decide) (by decide) he hpl) fun σ H Q h => prim_read max2_ok h
  | min2 => exact PE.weak (pe_callB (call_min2 g.calm) hg hm PyProof.Rows.boot_min ha (by decide) (by decide) he hpl) fun σ H Q h => prim_read min2_ok h
  | isa => exact PE.weak (pe_callB call_isi hg hm PyProof.Rows.boot_isinstance ha (by decide) (by decide) he hpl) fun σ H Q h => prim_read isa_ok h
  | repr => exact PE.weak (pe_callB (call_repr km g.gu g.un) hg hm PyProof.Rows.boot_repr ha (by decide) (by decide) he hpl) fun σ H Q h => prim_read repr_ok h
end
end MC

/-! MC, part 8: targets, statements, loops. -/
namespace MC
open PySem PySem.Spec PyProof.Rows L2

/-! ### results of statements -/
inductive SR where
  | nx (ρ : Rho) (st : Sto) | rt (d : D) (st : Sto) | bk (ρ : Rho) (st : Sto) | ct (ρ : Rho) (st : Sto) | ex (c : Nat) (ρ : Rho) (st : Sto)
abbrev MS := Rho → Sto → Option SR
def OutS (K : PySem.W.Frag) (cl : Nat → Addr) (W : WX) (F : Hp) (cs : CS) (r : SR) (D : Ends) : Prop := match r with
  | .nx ρ st => ∀ F' cs' σ' H', Ext F F' cs cs' → Wd K F' cs' st H' → EnvR K F' cs' ρ σ' → D.nx σ' H'
  | .bk ρ st => ∀ F' cs' σ' H', Ext F F' cs cs' → Wd K F' cs' st H' → EnvR K F' cs' ρ σ' → D.bk σ' H'
  | .ct ρ st => ∀ F' cs' σ' H', Ext F F' cs cs' → Wd K F' cs' st H' → EnvR K F' cs' ρ σ' → D.ct σ' H'
  | .rt d st => ∀ F' cs' v H', Ext F F' cs cs' → Wd K F' cs' st H' → Rp K F' cs' d v → D.rt v H'
  | .ex c ρ st => ∀ F' cs' σ' H', Ext F F' cs cs' → Wd K F' cs' st H' → EnvR K F' cs' ρ σ' → W (.ref (cl c)) none σ' H'
section
variable {K : PySem.W.Frag} {cl : Nat → Addr} {W : WX} {F F1 : Hp} {cs cs1 : CS} {r : SR} {D D' : Ends}
theorem OutS.mono (e : Ext F F1 cs cs1) (o : OutS K cl W F cs r D) : OutS K cl W F1 cs1 r D := by
  cases r with
  | nx ρ st => exact fun F' cs' σ' H' e' w r => o F' cs' σ' H' (e.trans e') w r
  | bk ρ st => exact fun F' cs' σ' H' e' w r => o F' cs' σ' H' (e.trans e') w r
  | ct ρ st => exact fun F' cs' σ' H' e' w r => o F' cs' σ' H' (e.trans e') w r
  | rt d st => exact fun F' cs' σ' H' e' w r => o F' cs' σ' H' (e.trans e') w r
  | ex c ρ st => exact fun F' cs' σ' H' e' w r => o F' cs' σ' H' (e.trans e') w r
end
def tS (K : PySem.W.Frag) (cl : Nat → Addr) (W : WX) (m : MS) : TS := fun D σ H => ∃ F cs ρ st r, Wd K F cs st H ∧ EnvR K F cs ρ σ ∧ m ρ st = some r ∧ OutS K cl W F cs r D
/-- an expression's part of a statement -/
def bindS {α : Type} (x : M α) (ρ : Rho) (f : α → Sto → Option SR) : Sto → Option SR := fun st => match x st with
  | none => none
  | some (.ok a st') => f a st'
  | some (.ex c st') => some (.ex c ρ st')
@[simp] theorem bindS_ret {α : Type} (a : α) (ρ : Rho) (f : α → Sto → Option SR) : bindS (M.ret a) ρ f = f a := rfl
@[simp] theorem bindS_no {α : Type} (ρ : Rho) (f : α → Sto → Option SR) : bindS (M.no : M α) ρ f = fun _ => none := rfl
@[simp] theorem bindS_raise {α : Type} (c : Nat) (ρ : Rho) (f : α → Sto → Option SR) : bindS (M.raise c : M α) ρ f = fun st => some (.ex c ρ st) := rfl
theorem bindS_of {α : Type} {x : M α} {ρ : Rho} {f : α → Sto → Option SR} {st st' : Sto} {a : α} (h : x st = some (.ok a st')) : bindS x ρ f st = f a st' := by
  unfold bindS
  rw [h]
theorem goS {α β : Type} {K : PySem.W.Frag} {cl : Nat → Addr} {W : WX} {ρ : Rho} {rep : Hp → CS → α → β → Prop} {F : Hp} {cs : CS} {st : Sto} {H : Hp} {σ : L2.St} {m : Rho → M α} {f : α → Sto → Option SR} {r : SR} {D : Ends} {Q' : β → Hp → Prop}
    (w : Wd K F cs st H) (en : EnvR K F cs ρ σ) (hm : bindS (m ρ) ρ f st = some r) (o : OutS K cl W F cs r D)
    (k : ∀ F' cs' a b st' H', Ext F F' cs cs' → Wd K F' cs' st' H' → EnvR K F' cs' ρ σ → rep F' cs' a b → f a st' = some r → OutS K cl W F' cs' r D → Q' b H') : tG K cl W rep m σ H Q' := by
  unfold bindS at hm
  cases q : m ρ st with
  | none => rw [q] at hm; cases hm
  | some x =>
    rw [q] at hm
    cases x with
    | ok a st' => exact ⟨F, cs, ρ, st, _, w, en, q, fun F' cs' b H' e w' r' => k F' cs' a b st' H' e w' (en.mono e) r' hm (o.mono e)⟩
    | ex c st' =>
      have e : SR.ex c ρ st' = r := Option.some.inj hm
      subst e
      exact ⟨F, cs, ρ, st, _, w, en, q, o⟩

/-! ### targets -/
inductive Tg where
  | nm (i : Nat) | tp (l : List Tg)
mutual
def asg : Tg → D → Rho → Option Rho
  | .nm i, d, ρ => some (ρ.set i (some d))
  | .tp l, .tup ds, ρ => asgL l ds ρ
  | .tp _, _, _ => none
def asgL : List Tg → List D → Rho → Option Rho
  | [], [], ρ => some ρ
  | t :: ts, d :: ds, ρ => match asg t d ρ with
    | some ρ' => asgL ts ds ρ'
    | none => none
  | _, _, _ => none
end
mutual
def Tg.slots : Tg → List Nat
  | .nm i => [i]
  | .tp l => Tg.slotsL l
def Tg.slotsL : List Tg → List Nat
  | [] => []
  | t :: ts => t.slots ++ Tg.slotsL ts
end
/-- but for the slots ns nothing has changed -/
def ButFor (ns : List Nat) (σ σ' : L2.St) : Prop := ∀ vs : List Nat, (∀ i ∈ ns, i ∈ vs) → wipe σ' vs = wipe σ vs
theorem wipe_in {σ : L2.St} {j : Nat} : ∀ {vs : List Nat}, j ∈ vs → j < σ.length → (wipe σ vs)[j]? = some none
  | [], h, _ => by cases h
  | v :: vs, h, hl => by
    unfold wipe
    by_cases e : v = j
    · subst e
      rw [List.getElem?_set_self (by rw [wipe_length]; exact hl)]
    · rw [List.getElem?_set_ne e]
      rcases List.mem_cons.mp h with z | z
      · exact absurd z.symm e
      · exact wipe_in z hl
theorem wipe_set {σ : L2.St} {i : Nat} {x : Option V} {vs : List Nat} (h : i ∈ vs) : wipe (σ.set i x) vs = wipe σ vs := by
  apply List.ext_getElem?
  intro j
  by_cases hj : j ∈ vs
  · by_cases hl : j < σ.length
    · rw [wipe_in hj (by rw [List.length_set]; exact hl), wipe_in hj hl]
    · rw [List.getElem?_eq_none (by rw [wipe_length, List.length_set]; omega), List.getElem?_eq_none (by rw [wipe_length]; omega)]
  · rw [wipe_out hj, wipe_out hj, List.getElem?_set_ne (show i ≠ j from fun e => hj (by rw [← e]; exact h))]
theorem ButFor.refl {ns : List Nat} {σ : L2.St} : ButFor ns σ σ := fun _ _ => rfl
def gD (K : PySem.W.Frag) (t : Tg) : TG := fun v σ H Q => ∃ F cs ρ st d ρ', Wd K F cs st H ∧ EnvR K F cs ρ σ ∧ Rp K F cs d v ∧ asg t d ρ = some ρ' ∧ ∀ σ', EnvR K F cs ρ' σ' → ButFor t.slots σ σ' → Q σ' H
def gDs (K : PySem.W.Frag) (t : List Tg) : TGs := fun v σ H Q => ∃ F cs ρ st d ρ', Wd K F cs st H ∧ EnvR K F cs ρ σ ∧ RpL K F cs d v ∧ asgL t d ρ = some ρ' ∧ ∀ σ', EnvR K F cs ρ' σ' → ButFor (Tg.slotsL t) σ σ' → Q σ' H
theorem asgL_len : ∀ {l : List Tg} {ds : List D} {ρ ρ' : Rho}, asgL l ds ρ = some ρ' → ds.length = l.length
  | [], [], _, _, _ => rfl
  | [], _ :: _, _, _, h => by unfold asgL at h; cases h
  | _ :: _, [], _, _, h => by unfold asgL at h; cases h
  | t :: ts, d :: ds, ρ, ρ', h => by
    unfold asgL at h
    cases e : asg t d ρ with
    | none => rw [e] at h; cases h
    | some ρ1 =>
      rw [e] at h
      rw [List.length_cons, List.length_cons, asgL_len h]
section
variable {X : Cx} {cl : Nat → Addr} {W : WX}
theorem PG.weak {e : Expr} {t t' : TG} (h : PG X e t) (hw : ∀ v σ H Q, t' v σ H Q → t v σ H Q) : PG X e t' := ⟨fun pins s σ H v u Q I r q => h.run pins s σ H v u Q I r (hw v σ H Q q)⟩
theorem PGs.weak {e : List Expr} {t t' : TGs} (h : PGs X e t) (hw : ∀ v σ H Q, t' v σ H Q → t v σ H Q) : PGs X e t' := ⟨fun pins s σ H v u Q I r q => h.run pins s σ H v u Q I r (hw v σ H Q q)⟩
theorem sg_name {i : Nat} {x : Str} {pos : Pos} (hN : X.N.Nodup) (hi : X.N[i]? = some x) (hx : Loc X.env.scope x) (hf : X.fn x = true ∨ X.env.scope.names.lookup x = some .local) : PG X (.Name x pos) (gD X.K (.nm i)) := by
  refine PG.weak (pg_name hN hi hx hf) fun v σ H Q h => ?_
  obtain ⟨F, cs, ρ, st, d, ρ', w, en, r, hm, q⟩ := h
  unfold asg at hm
  cases hm
  exact q _ (en.set r i) fun vs hv => wipe_set (hv i (by unfold Tg.slots; exact List.mem_singleton.mpr rfl))
theorem sgs_nil : PGs X [] (gDs X.K []) := by
  refine PGs.weak pgs_nil fun v σ H Q h => ?_
  obtain ⟨F, cs, ρ, st, d, ρ', w, en, r, hm, q⟩ := h
  cases d with
  | nil =>
    cases r
    unfold asgL at hm
    cases hm
    exact ⟨rfl, q _ en ButFor.refl⟩
  | cons _ _ => unfold asgL at hm; cases hm
theorem sgs_cons {e : Expr} {es : List Expr} {t : Tg} {ts : List Tg} (h1 : PG X e (gD X.K t)) (h2 : PGs X es (gDs X.K ts)) (hs : (assignEach (e :: es) X.env).map (·.2) = assign e X.env :: (assignEach es X.env).map (·.2)) : PGs X (e :: es) (gDs X.K (t :: ts)) := by
  refine PGs.weak (pgs_cons h1 h2 hs) fun v σ H Q h => ?_
  obtain ⟨F, cs, ρ, st, d, ρ', w, en, r, hm, q⟩ := h
  cases d with
  | nil => unfold asgL at hm; cases hm
  | cons d ds =>
    cases r with
    | cons r1 r2 =>
      unfold asgL at hm
      cases e : asg t d ρ with
      | none => rw [e] at hm; cases hm
      | some ρ1 =>
        rw [e] at hm
        exact ⟨_, _, rfl, F, cs, ρ, st, d, ρ1, w, en, r1, e, fun σ1 en1 b1 => ⟨F, cs, ρ1, st, ds, ρ', w, en1, r2, hm, fun σ2 en2 b2 => q σ2 en2 fun vs hv => (b2 vs fun i hi => hv i (by unfold Tg.slotsL; exact List.mem_append_right _ hi)).trans (b1 vs fun i hi => hv i (by unfold Tg.slotsL; exact List.mem_append_left _ hi))⟩⟩
theorem sg_tup {es : List Expr} {k : Nat} {ts : List Tg} {pos : Pos} (hc : X.calm = true) (h : PGs X es (gDs X.K ts)) (hn : (assignEach es X.env).length = ts.length) (hst : (assignEach es X.env).findIdx? (·.1) = none) : PG X (.Tuple es k pos) (gD X.K (.tp ts)) := by
  refine PG.weak (pg_tup hc h hn hst) fun v σ H Q h => ?_
  obtain ⟨F, cs, ρ, st, d, ρ', w, en, r, hm, q⟩ := h
  cases d with
  | tup l =>
    cases r with
    | tup s r =>
      unfold asg at hm
      refine ⟨_, _, rfl, w.ext.sqT s, ?_, F, cs, ρ, st, l, ρ', w, en, r, hm, (by unfold Tg.slots at q; exact q)⟩
      rw [← r.length]
      exact asgL_len hm
  | _ => unfold asg at hm; cases hm

/-! ### statements -/
theorem PS.weak {e : Stmt} {t t' : TS} (h : PS X e t) (hw : ∀ D σ H, t' D σ H → t D σ H) : PS X e t' := ⟨fun pins s σ H D I q => h.run pins s σ H D I (hw D σ H q)⟩
theorem PSs.weak {e : List Stmt} {t t' : TS} (h : PSs X e t) (hw : ∀ D σ H, t' D σ H → t D σ H) : PSs X e t' := ⟨fun pins s σ H D I q => h.run pins s σ H D I (hw D σ H q)⟩
def mAsg (t : Tg) (m : Rho → M D) : MS := fun ρ => bindS (m ρ) ρ fun d st => match asg t d ρ with
  | some ρ' => some (.nx ρ' st)
  | none => none
theorem asg_read {t : Tg} {m : Rho → M D} {D : Ends} {σ : L2.St} {H : Hp} (h : tS X.K cl W (mAsg t m) D σ H) : tAsg (tE X.K cl W m) (gD X.K t) D σ H := by
  obtain ⟨F, cs, ρ, st, r, w, en, hm, o⟩ := h
  refine goS w en hm o fun F1 cs1 d v st1 H1 e1 w1 en1 r1 h1 o1 => ?_
  cases e : asg t d ρ with
  | none => rw [e] at h1; cases h1
  | some ρ' =>
    rw [e] at h1
    cases h1
    exact ⟨F1, cs1, ρ, st1, d, ρ', w1, en1, r1, e, fun σ' en' _ => o1 F1 cs1 σ' H1 Ext.refl w1 en'⟩
theorem ss_asg {tg e : Expr} {t : Tg} {m : Rho → M D} {pos : Pos} (he : PE X e (tE X.K cl W m)) (hg : PG X tg (gD X.K t)) (hs : swapsWithSole [tg] e pos.line X.env = pure false) (hw : swappedStores [tg] e X.env = pure none) (h1 : (assignEach [tg] X.env).map (·.2) = [assign tg X.env]) :
    PS X (.Assign [tg] e pos) (tS X.K cl W (mAsg t m)) := PS.weak (ps_asg he hg hs hw h1) fun D σ H h => asg_read h
def mDrop (m : Rho → M D) : MS := fun ρ => bindS (m ρ) ρ fun _ st => some (.nx ρ st)
theorem ss_expr {e : Expr} {m : Rho → M D} {pos : Pos} (he : PE X e (tE X.K cl W m)) (hs : swapsWith e none pos.line X.env = pure false) : PS X (.Expr e pos) (tS X.K cl W (mDrop m)) := by
  refine PS.weak (ps_expr he hs) fun D σ H h => ?_
  obtain ⟨F, cs, ρ, st, r, w, en, hm, o⟩ := h
  refine goS w en hm o fun F1 cs1 d v st1 H1 e1 w1 en1 r1 h1 o1 => ?_
  cases h1
  exact o1 F1 cs1 σ H1 Ext.refl w1 en1
def mRet (m : Rho → M D) : MS := fun ρ => bindS (m ρ) ρ fun d st => some (.rt d st)
theorem ss_ret {e : Expr} {m : Rho → M D} {pos : Pos} (he : PE X e (tE X.K cl W m)) : PS X (.Return (some e) pos) (tS X.K cl W (mRet m)) := by
  refine PS.weak (ps_ret he) fun D σ H h => ?_
  obtain ⟨F, cs, ρ, st, r, w, en, hm, o⟩ := h
  refine goS w en hm o fun F1 cs1 d v st1 H1 e1 w1 en1 r1 h1 o1 => ?_
  cases h1
  exact o1 F1 cs1 v H1 Ext.refl w1 r1
def mRetN : MS := fun _ st => some (.rt .non st)
theorem ss_retN {pos : Pos} : PS X (.Return none pos) (tS X.K cl W mRetN) := by
  refine PS.weak ps_retN fun D σ H h => ?_
  obtain ⟨F, cs, ρ, st, r, w, en, hm, o⟩ := h
  cases hm
  exact o F cs _ H Ext.refl w .non
def mNext : MS := fun ρ st => some (.nx ρ st)
theorem ss_pass {pos : Pos} : PS X (.Pass pos) (tS X.K cl W mNext) := by
  refine PS.weak ps_pass fun D σ H h => ?_
  obtain ⟨F, cs, ρ, st, r, w, en, hm, o⟩ := h
  cases hm
  exact o F cs _ H Ext.refl w en
def mBrk : MS := fun ρ st => some (.bk ρ st)
theorem ss_break {pos : Pos} : PS X (.Break pos) (tS X.K cl W mBrk) := by
  refine PS.weak ps_break fun D σ H h => ?_
  obtain ⟨F, cs, ρ, st, r, w, en, hm, o⟩ := h
  cases hm
  exact o F cs _ H Ext.refl w en
def mCt : MS := fun ρ st => some (.ct ρ st)
theorem ss_continue {pos : Pos} : PS X (.Continue pos) (tS X.K cl W mCt) := by
  refine PS.weak ps_continue fun D σ H h => ?_
  obtain ⟨F, cs, ρ, st, r, w, en, hm, o⟩ := h
  cases hm
  exact o F cs _ H Ext.refl w en
/-- one behind the other -/
def mSeq (a b : MS) : MS := fun ρ st => match a ρ st with
  | some (.nx ρ' st') => b ρ' st'
  | r => r
theorem seq_read {a b : MS} {D : Ends} {σ : L2.St} {H : Hp} (h : tS X.K cl W (mSeq a b) D σ H) : tSeq (tS X.K cl W a) (tS X.K cl W b) D σ H := by
  obtain ⟨F, cs, ρ, st, r, w, en, hm, o⟩ := h
  unfold mSeq at hm
  cases q : a ρ st with
  | none => rw [q] at hm; cases hm
  | some x =>
    rw [q] at hm
    cases x with
    | nx ρ1 st1 => exact ⟨F, cs, ρ, st, _, w, en, q, fun F' cs' σ' H' e w' en' => ⟨F', cs', ρ1, st1, r, w', en', hm, o.mono e⟩⟩
    | rt d st1 => cases hm; exact ⟨F, cs, ρ, st, _, w, en, q, o⟩
    | bk d st1 => cases hm; exact ⟨F, cs, ρ, st, _, w, en, q, o⟩
    | ct d st1 => cases hm; exact ⟨F, cs, ρ, st, _, w, en, q, o⟩
    | ex c d st1 => cases hm; exact ⟨F, cs, ρ, st, _, w, en, q, o⟩
theorem sss_nil : PSs X [] (tS X.K cl W mNext) := by
  refine PSs.weak pss_nil fun D σ H h => ?_
  obtain ⟨F, cs, ρ, st, r, w, en, hm, o⟩ := h
  cases hm
  exact o F cs _ H Ext.refl w en
theorem sss_cons {s : Stmt} {ss : List Stmt} {a b : MS} (h1 : PS X s (tS X.K cl W a)) (h2 : PSs X ss (tS X.K cl W b)) : PSs X (s :: ss) (tS X.K cl W (mSeq a b)) := PSs.weak (pss_cons h1 h2) fun D σ H h => seq_read h
def mIfS (c : Rho → M Bool) (a b : MS) : MS := fun ρ => bindS (c ρ) ρ fun k st => if k = true then a ρ st else b ρ st
theorem ss_if {c : Expr} {s1 s2 : List Stmt} {mc : Rho → M Bool} {a b : MS} {pos : Pos} (hc : PT X c (tT X.K cl W mc)) (h1 : PSs X s1 (tS X.K cl W a)) (h2 : PSs X s2 (tS X.K cl W b)) : PS X (.If c s1 s2 pos) (tS X.K cl W (mIfS mc a b)) := by
  refine PS.weak (ps_if hc h1 h2) fun D σ H h => ?_
  obtain ⟨F, cs, ρ, st, r, w, en, hm, o⟩ := h
  refine goS w en hm o fun F1 cs1 k k' st1 H1 e1 w1 en1 r1 h1 o1 => ?_
  cases r1
  cases k with
  | true => exact ⟨F1, cs1, ρ, st1, r, w1, en1, h1, o1⟩
  | false => exact ⟨F1, cs1, ρ, st1, r, w1, en1, h1, o1⟩
/-- a thing of the store stays as it is from now on: name i holds it as a value -/
def mFrz (i : Nat) : MS := fun ρ st => match ρ[i]?.join with
  | some (.cell n) => (match st[n]? with
    | some (.lst l) => some (.nx (ρ.set i (some (.lst l))) (st.set n .dead))
    | some (.dic ks vs) => some (.nx (ρ.set i (some (.dic ks vs))) (st.set n .dead))
    | _ => none)
  | _ => none

/-! ### loops -/
/-- what an iterator feeds -/
structure Feed (K : PySem.W.Frag) (F : Hp) (cs : CS) (ds : List D) (J : It) : Prop where
  stop : ∀ F' cs' st H, Exw F F' cs cs' → Wd K F' cs' st H → J.stop ds.length H
  go : ∀ F' cs' st H i, Exw F F' cs cs' → Wd K F' cs' st H → i < ds.length → J.go i H
  yld : ∀ F' cs' st H i d x H', Exw F F' cs cs' → Wd K F' cs' st H → ds[i]? = some d → J.yld i H x H' → ∃ F'', Ext F' F'' cs' cs' ∧ Wd K F'' cs' st H' ∧ Rp K F'' cs' d x
abbrev repI (K : PySem.W.Frag) : Hp → CS → List D → It → Prop := fun F cs ds J => Feed K F cs ds J
abbrev tI (K : PySem.W.Frag) (cl : Nat → Addr) (W : WX) (m : Rho → M (List D)) : TI := tG K cl W (repI K) m
theorem PI.weak {tg e : Expr} {t t' : TI} (h : PI X tg e t) (hw : ∀ σ H R, t' σ H R → t σ H R) : PI X tg e t' := ⟨fun pins s σ H R I q => h.run pins s σ H R I (hw σ H R q)⟩
def itL : D → M (List D)
  | .lst l => M.ret l
  | .ro l => M.ret l
  | _ => M.no
def itT : D → M (List D)
  | .tup l => M.ret l
  | _ => M.no
theorem feed_list {K : PySem.W.Frag} {F : Hp} {cs : CS} {a : Addr} {vs : List V} {l : List D} (s : SqL K F a vs) (r : RpL K F cs l vs) : Feed K F cs l (Itl K a) where
  stop := fun F' cs' st H e w => ⟨vs, w.ext.sqL (e.sqL s), Nat.le_of_eq r.length.symm⟩
  go := fun F' cs' st H i e w hi => by
    obtain ⟨v, h1, _⟩ := r.get (List.getElem?_eq_getElem hi)
    exact ⟨vs, v, w.ext.sqL (e.sqL s), h1⟩
  yld := fun F' cs' st H i d x H' e w hd y => by
    obtain ⟨rfl, y⟩ := y
    obtain ⟨v, h1, h2⟩ := r.get hd
    have := y vs (w.ext.sqL (e.sqL s))
    rw [h1] at this
    cases this
    exact ⟨F', Ext.refl, w, h2.monow e⟩
theorem feed_tup {K : PySem.W.Frag} {F : Hp} {cs : CS} {a : Addr} {vs : List V} {l : List D} (s : SqT K F a vs) (r : RpL K F cs l vs) : Feed K F cs l (Itt K a) where
  stop := fun F' cs' st H e w => ⟨vs, w.ext.sqT (e.sqT s), Nat.le_of_eq r.length.symm⟩
  go := fun F' cs' st H i e w hi => by
    obtain ⟨v, h1, _⟩ := r.get (List.getElem?_eq_getElem hi)
    exact ⟨vs, v, w.ext.sqT (e.sqT s), h1⟩
  yld := fun F' cs' st H i d x H' e w hd y => by
    obtain ⟨rfl, y⟩ := y
    obtain ⟨v, h1, h2⟩ := r.get hd
    have := y vs (w.ext.sqT (e.sqT s))
    rw [h1] at this
    cases this
    exact ⟨F', Ext.refl, w, h2.monow e⟩
def rangeL (lo : Int) (n : Nat) : List D := (List.range n).map fun (i : Nat) => D.int (lo + (i : Int))
theorem feed_range {K : PySem.W.Frag} {F : Hp} {cs : CS} {lo : Int} {n : Nat} : Feed K F cs (rangeL lo n) (Itr lo n) where
  stop := fun F' cs' st H e w => by
    show n ≤ (rangeL lo n).length
    unfold rangeL
    simp
  go := fun F' cs' st H i e w hi => by
    show i < n
    unfold rangeL at hi
    simpa using hi
  yld := fun F' cs' st H i d x H' e w hd y => by
    obtain ⟨rfl, rfl⟩ := y
    unfold rangeL at hd
    rw [List.getElem?_map] at hd
    obtain ⟨j, h1, rfl⟩ := Option.map_eq_some_iff.mp hd
    rw [List.getElem?_range (by have := (List.getElem?_eq_some_iff.mp h1).1; simpa using this)] at h1
    cases h1
    exact ⟨F', Ext.refl, w, .int _⟩
/-- a list or a tuple that is walked: which, is known from the function's data -/
def iSeq (K : PySem.W.Frag) (tl : TE) : TI := fun σ H R => tl σ H fun x H1 => ∃ a, x = .ref a ∧ (((∃ xs, SqL K H1 a xs) ∧ R (Itl K a) H1) ∨ ((∃ xs, SqT K H1 a xs) ∧ R (Itt K a) H1))
theorem pi_seq {tg l : Expr} {tl : TE} (hl : PE X l tl) : PI X tg l (iSeq X.K tl) := by
  refine ⟨fun pins s σ H R I h => ?_⟩
  refine thn (hl.run pins s σ H _ I h) fun v s1 ⟨x, H1, I1, r1, q1⟩ => ?_
  obtain ⟨a, e, q⟩ := q1
  subst e
  cases r1
  rcases q with ⟨⟨xs, hq⟩, q⟩ | ⟨⟨xs, hq⟩, q⟩
  · obtain ⟨its, rv, p, hz⟩ := I1.list hq
    refine wpAny_pyIter_list p.isList ⟨s1.heap.objs.size, [s1.heap.objs.size], _, _, H1, rfl, I1.kept (t' := s1.toks) fun b o e => Heap.get?_push_of_some _ e, turn_list a _, ⟨_, Heap.get?_push_size _ rfl, rfl, rfl⟩, fun b hb => ?_, q⟩
    obtain rfl : b = s1.heap.objs.size := List.mem_singleton.mp hb
    exact I1.fpOk (Nat.le_refl _) (I1.hok.fresh (Nat.le_refl _))
  · obtain ⟨its, rv, p, hz⟩ := I1.tuple hq
    refine wpAny_pyIter_tuple (show s1.heap.IsTuple a its.toArray from p) ⟨s1.heap.objs.size, [s1.heap.objs.size], _, _, H1, rfl, I1.kept (t' := s1.toks) fun b o e => Heap.get?_push_of_some _ e, turn_tuple a _, ⟨_, Heap.get?_push_size _ rfl, rfl, rfl⟩, fun b hb => ?_, q⟩
    obtain rfl : b = s1.heap.objs.size := List.mem_singleton.mp hb
    exact I1.fpOk (Nat.le_refl _) (I1.hok.fresh (Nat.le_refl _))
def itS : D → M (List D)
  | .lst l => M.ret l
  | .ro l => M.ret l
  | .tup l => M.ret l
  | _ => M.no
theorem si_seq {tg e : Expr} {m : Rho → M D} (he : PE X e (tE X.K cl W m)) : PI X tg e (tI X.K cl W fun ρ => (m ρ).bind itS) := by
  refine PI.weak (pi_seq he) fun σ H R h => ?_
  obtain ⟨F, cs, ρ, st, z, w, en, hm, o⟩ := h
  refine go w en hm o fun F1 cs1 x vx st1 H1 e1 w1 en1 r1 h1 o1 => ?_
  cases r1 with
  | tup s r => cases some_ret h1; exact ⟨_, rfl, .inr ⟨⟨_, w1.ext.sqT s⟩, o1.val w1 (feed_tup s r)⟩⟩
  | lst s r => cases some_ret h1; exact ⟨_, rfl, .inl ⟨⟨_, .inl (.inl (w1.sub _ _ s))⟩, o1.val w1 (feed_list (.inl (.inl s)) r)⟩⟩
  | ro s r => cases some_ret h1; exact ⟨_, rfl, .inl ⟨⟨_, w1.ext.sqL s⟩, o1.val w1 (feed_list s r)⟩⟩
  | _ => cases h1
def rng1F : List D → M (List D)
  | [.int j] => if -1000000 ≤ j ∧ j ≤ 1000000 then M.ret (rangeL 0 j.toNat) else M.no
  | _ => M.no
def rng2F : List D → M (List D)
  | [.int i, .int j] => if (-1000000 ≤ i ∧ i ≤ 1000000) ∧ (-1000000 ≤ j ∧ j ≤ 1000000) then M.ret (rangeL i (j - i).toNat) else M.no
  | _ => M.no
theorem si_range1 {tg a : Expr} {m : Rho → M (List D)} {p pos : Pos} (hg : Gl X "range") (hm : X.mg "range" = none) (ha : PA X [a] (tA X.K cl W m)) (hs : starEach [a] X.env = [(false, eval a X.env)]) : PI X tg (.Call (.Name "range" p) [a] [] pos) (tI X.K cl W fun ρ => (m ρ).bind rng1F) := by
  refine PI.weak (pi_range1 hg hm ha hs) fun σ H R h => ?_
  obtain ⟨F, cs, ρ, st, z, w, en, hm, o⟩ := h
  refine go w en hm o fun F1 cs1 x vx st1 H1 e1 w1 en1 r1 h1 o1 => ?_
  unfold rng1F at h1
  split at h1
  · obtain ⟨hc, h1⟩ := ite_ret h1
    cases some_ret h1
    cases r1 with
    | cons r1 t =>
      cases t
      cases r1
      exact ⟨_, rfl, by omega, by omega, o1.val w1 feed_range⟩
  · cases h1
theorem si_range2 {tg a b : Expr} {m : Rho → M (List D)} {p pos : Pos} (hg : Gl X "range") (hm : X.mg "range" = none) (ha : PA X [a, b] (tA X.K cl W m)) (hs : starEach [a, b] X.env = [(false, eval a X.env), (false, eval b X.env)]) (hs2 : starEach [b] X.env = [(false, eval b X.env)]) : PI X tg (.Call (.Name "range" p) [a, b] [] pos) (tI X.K cl W fun ρ => (m ρ).bind rng2F) := by
  refine PI.weak (pi_range2 hg hm ha hs hs2) fun σ H R h => ?_
  obtain ⟨F, cs, ρ, st, z, w, en, hm, o⟩ := h
  refine go w en hm o fun F1 cs1 x vx st1 H1 e1 w1 en1 r1 h1 o1 => ?_
  unfold rng2F at h1
  split at h1
  · obtain ⟨hc, h1⟩ := ite_ret h1
    cases some_ret h1
    cases r1 with
    | cons r1 t =>
      cases t with
      | cons r2 t =>
        cases t
        cases r1
        cases r2
        exact ⟨_, _, rfl, ⟨by omega, by omega, by omega, by omega⟩, o1.val w1 feed_range⟩
  · cases h1
/-- for -/
def forL (t : Tg) (b : MS) : List D → MS
  | [], ρ, st => some (.nx ρ st)
  | d :: ds, ρ, st => match asg t d ρ with
    | none => none
    | some ρ1 => match b ρ1 st with
      | some (.nx ρ2 st2) => forL t b ds ρ2 st2
      | some (.ct ρ2 st2) => forL t b ds ρ2 st2
      | some (.bk ρ2 st2) => some (.nx ρ2 st2)
      | r => r
def mFor (t : Tg) (it : Rho → M (List D)) (b : MS) : MS := fun ρ => bindS (it ρ) ρ fun ds st => forL t b ds ρ st
theorem ss_for {tg iter : Expr} {body : List Stmt} {t : Tg} {mi : Rho → M (List D)} {b : MS} {pos : Pos} (hp : PassesOwn (model X.prog X.w) X.A X.env X.xe) (g : Good X W) (hi : PI X tg iter (tI X.K cl W mi)) (hg : PG X tg (gD X.K t)) (hb : PSs X body (tS X.K cl W b)) (hs : ∀ x, foldedSetIterable iter X.env x = pure x) :
    PS X (.For tg iter body [] pos) (tS X.K cl W (mFor t mi b)) := by
  refine PS.weak (ps_for hp g.calm hi hg hb hs) fun D σ H h => ?_
  obtain ⟨F, cs, ρ, st, r, w, en, hm, o⟩ := h
  refine goS w en hm o fun F1 cs1 ds J st1 H1 e1 w1 en1 fd h1 o1 => ?_
  refine ⟨fun i m σ H => m = ds.length - i ∧ i ≤ ds.length ∧ ∃ F2 cs2 ρ2 st2, Ext F1 F2 cs1 cs2 ∧ Wd X.K F2 cs2 st2 H ∧ EnvR X.K F2 cs2 ρ2 σ ∧ forL t b (ds.drop i) ρ2 st2 = some r, ⟨ds.length, by omega, Nat.zero_le _, F1, cs1, ρ, st1, Ext.refl, w1, en1, by rw [List.drop_zero]; exact h1⟩, ?_⟩
  rintro i m σ2 H2 ⟨rfl, hi, F2, cs2, ρ2, st2, e2, w2, en2, h2⟩
  by_cases hlt : i < ds.length
  · rw [List.drop_eq_getElem_cons hlt] at h2
    unfold forL at h2
    cases q : asg t ds[i] ρ2 with
    | none => rw [q] at h2; cases h2
    | some ρ3 =>
      rw [q] at h2
      simp only at h2
      refine .inr ⟨fd.go F2 cs2 st2 H2 i e2.w w2 hlt, fun σ' H' => ∃ F4 cs4 ρ4 st4, Ext F1 F4 cs1 cs4 ∧ Wd X.K F4 cs4 st4 H' ∧ EnvR X.K F4 cs4 ρ4 σ' ∧ forL t b (ds.drop (i + 1)) ρ4 st4 = some r, fun σ' H' ⟨F4, cs4, ρ4, st4, z1, z2, z3, z4⟩ => ⟨ds.length - (i + 1), by omega, rfl, hlt, F4, cs4, ρ4, st4, z1, z2, z3, z4⟩, fun x H3 hy => ?_⟩
      obtain ⟨F3, e3, w3, r3⟩ := fd.yld F2 cs2 st2 H2 i _ x H3 e2.w w2 (List.getElem?_eq_getElem hlt) hy
      refine ⟨F3, cs2, ρ2, st2, _, ρ3, w3, en2.mono e3, r3, q, fun σ3 en3 _ => ?_⟩
      cases q2 : b ρ3 st2 with
      | none => rw [q2] at h2; cases h2
      | some x2 =>
        rw [q2] at h2
        refine ⟨F3, cs2, ρ3, st2, x2, w3, en3, q2, ?_⟩
        have e13 : Ext F1 F3 cs1 cs2 := e2.trans e3
        cases x2 with
        | nx ρ4 st4 => exact fun F4 cs4 σ4 H4 e4 w4 en4 => ⟨F4, cs4, ρ4, st4, e13.trans e4, w4, en4, h2⟩
        | ct ρ4 st4 => exact fun F4 cs4 σ4 H4 e4 w4 en4 => ⟨F4, cs4, ρ4, st4, e13.trans e4, w4, en4, h2⟩
        | bk ρ4 st4 => cases h2; exact fun F4 cs4 σ4 H4 e4 w4 en4 => o1 F4 cs4 σ4 H4 (e13.trans e4) w4 en4
        | rt d st4 => cases h2; exact fun F4 cs4 σ4 H4 e4 w4 en4 => o1 F4 cs4 σ4 H4 (e13.trans e4) w4 en4
        | ex c d st4 => cases h2; exact fun F4 cs4 σ4 H4 e4 w4 en4 => o1 F4 cs4 σ4 H4 (e13.trans e4) w4 en4
  · obtain rfl : i = ds.length := by omega
    rw [List.drop_length] at h2
    cases h2
    exact .inl ⟨fd.stop F2 cs2 st2 H2 e2.w w2, o1 F2 cs2 σ2 H2 e2 w2 en2⟩
end
end MC

/-! MC, part 9: list comprehensions, stores into the store's things. -/
namespace MC
open PySem PySem.Spec PyProof.Rows L2

def wipeR (ρ : Rho) : List Nat → Rho
  | [] => ρ
  | v :: vs => (wipeR ρ vs).set v none
theorem EnvR.wipe {K : PySem.W.Frag} {F : Hp} {cs : CS} {ρ : Rho} {σ : L2.St} (h : EnvR K F cs ρ σ) : ∀ vs : List Nat, EnvR K F cs (wipeR ρ vs) (L2.wipe σ vs)
  | [] => h
  | v :: vs => by
    unfold wipeR L2.wipe
    exact (EnvR.wipe h vs).clear v
theorem wipe_wipe {σ : L2.St} {vs : List Nat} : L2.wipe (L2.wipe σ vs) vs = L2.wipe σ vs := by
  apply List.ext_getElem?
  intro j
  by_cases hj : j ∈ vs
  · by_cases hl : j < σ.length
    · rw [wipe_in hj (by rw [wipe_length]; exact hl), wipe_in hj hl]
    · rw [List.getElem?_eq_none (by rw [wipe_length, wipe_length]; omega), List.getElem?_eq_none (by rw [wipe_length]; omega)]
  · rw [wipe_out hj]
/-- no exception leaves a comprehension -/
abbrev Wf : WX := fun _ _ _ _ => False
/-- the items -/
def compL (t : Tg) (c : Rho → M Bool) (e : Rho → M D) : List D → Rho → M (List D)
  | [], _ => M.ret []
  | d :: ds, ρ => match asg t d ρ with
    | none => M.no
    | some ρ1 => (c ρ1).bind fun k => if k = true then (e ρ1).bind fun y => (compL t c e ds ρ).bind fun ys => M.ret (y :: ys) else compL t c e ds ρ
def mComp (t : Tg) (vs : List Nat) (it : Rho → M (List D)) (c : Rho → M Bool) (e : Rho → M D) : Rho → M D := fun ρ => (it ρ).bind fun ds st =>
  if ds.length ≤ LIM then (match compL t c e ds (wipeR ρ vs) st with
    | some (.ok ys st') => some (.ok (.lst ys) st')
    | _ => none) else none
theorem compL_cons {t : Tg} {c : Rho → M Bool} {e : Rho → M D} {d : D} {ds : List D} {ρ : Rho} {st st3 : Sto} {ys : List D} (h : compL t c e (d :: ds) ρ st = some (.ok ys st3)) :
    ∃ ρ1 k st1, asg t d ρ = some ρ1 ∧ c ρ1 st = some (.ok k st1) ∧ ((k = true ∧ ∃ y st2 zs, e ρ1 st1 = some (.ok y st2) ∧ compL t c e ds ρ st2 = some (.ok zs st3) ∧ ys = y :: zs) ∨ (k = false ∧ compL t c e ds ρ st1 = some (.ok ys st3))) := by
  unfold compL at h
  cases q : asg t d ρ with
  | none => rw [q] at h; cases h
  | some ρ1 =>
    rw [q] at h
    simp only at h
    unfold M.bind at h
    cases q2 : c ρ1 st with
    | none => rw [q2] at h; cases h
    | some r =>
      rw [q2] at h
      cases r with
      | ex _ _ => cases h
      | ok k st1 =>
        refine ⟨ρ1, k, st1, rfl, q2, ?_⟩
        simp only at h
        cases k with
        | false => exact .inr ⟨rfl, h⟩
        | true =>
          rw [if_pos rfl] at h
          cases q3 : e ρ1 st1 with
          | none => rw [q3] at h; cases h
          | some r =>
            rw [q3] at h
            cases r with
            | ex _ _ => cases h
            | ok y st2 =>
              simp only at h
              cases q4 : compL t c e ds ρ st2 with
              | none => rw [q4] at h; cases h
              | some r =>
                rw [q4] at h
                cases r with
                | ex _ _ => cases h
                | ok zs st4 =>
                  have e5 := some_ret h
                  cases e5
                  exact .inl ⟨rfl, y, st2, zs, rfl, q4, rfl⟩
section
variable {X : Cx} {cl : Nat → Addr} {W : WX}
theorem comp_read {K : PySem.W.Frag} {t : Tg} {vs : List Nat} {mi : Rho → M (List D)} {mc : Rho → M Bool} {me : Rho → M D} (hv : ∀ i ∈ t.slots, i ∈ vs) {σ : L2.St} {H : Hp} {Q : VK} (h : tE K cl W (mComp t vs mi mc me) σ H Q) :
    tLc (tI K cl W mi) (gD K t) (tT K cl Wf mc) (tE K cl Wf me) vs σ H Q := by
  obtain ⟨F, cs, ρ, st, z, w, en, hm, o⟩ := h
  refine go w en hm o fun F1 cs1 ds J st1 H1 e1 w1 en1 fd h1 o1 => ?_
  by_cases hl : ds.length ≤ LIM
  · rw [if_pos hl] at h1
    cases q : compL t mc me ds (wipeR ρ vs) st1 with
    | none => rw [q] at h1; cases h1
    | some r =>
      rw [q] at h1
      cases r with
      | ex _ _ => cases h1
      | ok L st3 =>
        cases h1
        intro p hp
        have wb := w1.begin hp
        refine ⟨fun i m H => m = ds.length - i ∧ i ≤ ds.length ∧ ∃ F2 cs2 aV aD st2 ys, Exw F1 F2 cs1 cs2 ∧ cs2.g = (p, aV) :: cs1.g ∧ Wd K F2 cs2 st2 H ∧ RpL K F2 cs2 aD aV ∧ aD.length ≤ i ∧ compL t mc me (ds.drop i) (wipeR ρ vs) st2 = some (.ok ys st3) ∧ aD ++ ys = L,
          ⟨ds.length, by omega, Nat.zero_le _, F1, ⟨cs1.l, (p, []) :: cs1.g⟩, [], [], st1, L, ⟨fun _ _ h => h, fun _ _ h => h⟩, rfl, wb, .nil, Nat.le_refl _, by rw [List.drop_zero]; exact q, rfl⟩, ?_⟩
        rintro i m H2 ⟨rfl, hi, F2, cs2, aV, aD, st2, ys, e2, g2, w2, r2, hn, h2, hL⟩
        by_cases hlt : i < ds.length
        · rw [List.drop_eq_getElem_cons hlt] at h2
          obtain ⟨ρ1, k, st4, ha, hc, hk⟩ := compL_cons h2
          refine .inr ⟨fd.go F2 cs2 st2 H2 i e2 w2 hlt, fun H' => ∃ F4 cs4 aV aD st4 ys, Exw F1 F4 cs1 cs4 ∧ cs4.g = (p, aV) :: cs1.g ∧ Wd K F4 cs4 st4 H' ∧ RpL K F4 cs4 aD aV ∧ aD.length ≤ i + 1 ∧ compL t mc me (ds.drop (i + 1)) (wipeR ρ vs) st4 = some (.ok ys st3) ∧ aD ++ ys = L,
            fun H' ⟨F4, cs4, a4, d4, s4, y4, z1, z2, z3, z4, z5, z6, z7⟩ => ⟨ds.length - (i + 1), by omega, rfl, hlt, F4, cs4, a4, d4, s4, y4, z1, z2, z3, z4, z5, z6, z7⟩, fun x H3 hy => ?_⟩
          obtain ⟨F3, e3, w3, r3⟩ := fd.yld F2 cs2 st2 H2 i _ x H3 e2 w2 (List.getElem?_eq_getElem hlt) hy
          have en3 : EnvR K F3 cs2 (wipeR ρ vs) (L2.wipe σ vs) := (en1.monow (e2.trans e3.w)).wipe vs
          refine ⟨F3, cs2, wipeR ρ vs, st2, _, ρ1, w3, en3, r3, ha, fun σ4 en4 bf => ⟨?_, ?_⟩⟩
          · rw [bf vs hv, wipe_wipe]
          · refine ⟨F3, cs2, ρ1, st2, _, w3, en4, hc, fun F5 cs5 b H5 e5 w5 rb => ?_⟩
            cases rb
            have g5 : cs5.g = (p, aV) :: cs1.g := e5.gh.trans g2
            have e25 : Exw F2 F5 cs2 cs5 := e3.w.trans e5.w
            rcases hk with ⟨rfl, y, st6, zs, he, hz, rfl⟩ | ⟨rfl, hz⟩
            · rw [if_pos rfl]
              refine ⟨F5, cs5, ρ1, st4, _, w5, en4.mono e5, he, fun F6 cs6 yv H6 e6 w6 r6 => ?_⟩
              have g6 : cs6.g = (p, aV) :: cs1.g := e6.gh.trans g5
              have e26 : Exw F2 F6 cs2 cs6 := e25.trans e6.w
              refine ⟨aV, (w6.gok (p, aV) (by rw [g6]; exact List.mem_cons_self)).1, ?_, F6, ⟨cs6.l, (p, aV ++ [yv]) :: cs1.g⟩, aV ++ [yv], aD ++ [y], st6, zs, ⟨(e2.trans e26).hp, (e2.trans e26).cl⟩, rfl, w6.grow g6, ?_, ?_, hz, ?_⟩
              · have := r2.length
                have h3 : LIM < sizeLine := by rw [sizeLine_eq]; decide
                omega
              · exact ((r2.monow e26).append (.cons r6 .nil)).gh
              · rw [List.length_append, List.length_singleton]
                omega
              · rw [List.append_assoc]
                exact hL
            · rw [if_neg Bool.false_ne_true]
              exact ⟨F5, cs5, aV, aD, st4, ys, e2.trans e25, g5, w5, r2.monow e25, by omega, hz, hL⟩
        · obtain rfl : i = ds.length := by omega
          rw [List.drop_length] at h2
          have e4 := some_ret h2
          cases e4
          rw [List.append_nil] at hL
          subst hL
          obtain ⟨w4, s4⟩ := w2.done g2
          refine .inl ⟨fd.stop F2 cs2 _ H2 e2 w2, o1 (upd F2 p (.lst aV)) ⟨cs2.l, cs1.g⟩ (.ref p) H2 ⟨fun a u h => s4 a u (e2.hp a u h), e2.cl, rfl⟩ w4 (.lst upd_same ?_)⟩
          exact (r2.monow (cs' := cs2) ⟨s4, fun _ _ h => h⟩).gh
  · rw [if_neg hl] at h1
    cases h1
theorem se_comp (g : Good X W) {elt tg iter : Expr} {ifs : List Expr} {scope : Scope} {own : List (Str × Nat)} {pos : Pos} {t : Tg} {mi : Rho → M (List D)} {mc : Rho → M Bool} {me : Rho → M D} (hi : PI X tg iter (tI X.K cl W mi)) (ok : BlkOk X.N X.env.scope scope own)
    (hg : ∀ (s : Shared) (H : Hp) (C : Addr) (c : List (Str × Addr)) (fp : List Addr), PG (X.blk s H scope (compEnvC scope c C X.env) fp) tg (gD X.K t)) (ht : ∀ (s : Shared) (H : Hp) (C : Addr) (c : List (Str × Addr)) (fp : List Addr), PTs (X.blk s H scope (compEnvC scope c C X.env) fp) ifs (tT X.K cl Wf mc))
    (he : ∀ (s : Shared) (H : Hp) (C : Addr) (c : List (Str × Addr)) (fp : List Addr), PE (X.blk s H scope (compEnvC scope c C X.env) fp) elt (tE X.K cl Wf me)) (hs : ∀ x, foldedSetIterable iter X.env x = pure x) (hv : ∀ i ∈ t.slots, i ∈ own.map (·.2)) :
    PE X (.ListComp elt [⟨tg, iter, ifs, 0⟩] scope pos) (tE X.K cl W (mComp t (own.map (·.2)) mi mc me)) :=
  PE.weak (pe_lc g.calm g.nd hi ok hg ht he hs) fun σ H Q h => comp_read hv h
theorem ss_setComp (g : Good X W) {i : Nat} {y : Str} {py : Pos} {elt tg iter : Expr} {ifs : List Expr} {scope : Scope} {own : List (Str × Nat)} {pos spos : Pos} {t : Tg} {mi : Rho → M (List D)} {mc : Rho → M Bool} {me : Rho → M D} (hy : X.N[i]? = some y) (hyl : X.env.scope.names.lookup y = some .local)
    (hsw : swapsWith (.ListComp elt [⟨tg, iter, ifs, 0⟩] scope pos) (some (.Name y py)) spos.line X.env = pure true) (hi : PI X tg iter (tI X.K cl W mi)) (ok : BlkOk X.N X.env.scope scope own)
    (hg : ∀ (s : Shared) (H : Hp) (C : Addr) (c : List (Str × Addr)) (fp : List Addr), PG (X.blk s H scope (compEnvC scope c C X.env) fp) tg (gD X.K t)) (ht : ∀ (s : Shared) (H : Hp) (C : Addr) (c : List (Str × Addr)) (fp : List Addr), PTs (X.blk s H scope (compEnvC scope c C X.env) fp) ifs (tT X.K cl Wf mc))
    (he : ∀ (s : Shared) (H : Hp) (C : Addr) (c : List (Str × Addr)) (fp : List Addr), PE (X.blk s H scope (compEnvC scope c C X.env) fp) elt (tE X.K cl Wf me)) (hs : ∀ x, foldedSetIterable iter X.env x = pure x) (hv : ∀ i ∈ t.slots, i ∈ own.map (·.2)) :
    PS X (.Assign [.Name y py] (.ListComp elt [⟨tg, iter, ifs, 0⟩] scope pos) spos) (tS X.K cl W (mAsg (.nm i) (mComp t (own.map (·.2)) mi mc me))) := by
  refine PS.weak (ps_setLc g.calm g.nd hy hyl hsw hi ok hg ht he hs) fun D σ H h => ?_
  obtain ⟨F, cs, ρ, st, r, w, en, hm, o⟩ := h
  refine comp_read hv (goS w en hm o fun F1 cs1 d v st1 H1 e1 w1 en1 r1 h1 o1 => ?_)
  unfold asg at h1
  cases h1
  exact o1 F1 cs1 _ H1 Ext.refl w1 (en1.set r1 i)
/-- a clause's tests -/
theorem PTs.weak {e : List Expr} {t t' : TT} (h : PTs X e t) (hw : ∀ σ H Q, t' σ H Q → t σ H Q) : PTs X e t' := ⟨fun pins s σ H Q I q => h.run pins s σ H Q I (hw σ H Q q)⟩
def mYes : Rho → M Bool := fun _ => M.ret true
theorem sts_nil : PTs X [] (tT X.K cl W mYes) := by
  refine PTs.weak pts_nil fun σ H Q h => ?_
  obtain ⟨F, cs, ρ, st, r, w, en, hm, o⟩ := h
  cases some_ret hm
  exact o.val w rfl
theorem sts_one {c : Expr} {m : Rho → M Bool} (h : PT X c (tT X.K cl W m)) : PTs X [c] (tT X.K cl W m) := pts_one h

/-! ### o[i] = v, o.append(v) -/
def setIx (o i v : D) : Sto → Option Sto := fun st => match o, i with
  | .cell n, .int k => (match st[n]? with
    | some (.lst l) => (match ixN l.length k with
      | some j => some (st.set n (.lst (l.set j v)))
      | none => none)
    | _ => none)
  | _, _ => none
def mSetIx (o i e : Rho → M D) : MS := fun ρ => bindS (e ρ) ρ fun v => bindS (o ρ) ρ fun x => bindS (i ρ) ρ fun y st => match setIx x y v st with
  | some st' => some (.nx ρ st')
  | none => none
theorem ss_setIx {o i e : Expr} {mo mi me : Rho → M D} {pos p2 : Pos} (ho : PE X o (tE X.K cl W mo)) (hi : PE X i (tE X.K cl W mi)) (he : PE X e (tE X.K cl W me))
    (ha : ∀ v, assign (.Subscript o i p2) X.env v = (do
      let ov ← holding [v] (eval o X.env)
      let iv ← holding [v, ov] (eval i X.env)
      standAt p2
      holding [v, ov, iv] (setItem ov iv v)
      release [v, ov, iv] []))
    (hs : swapsWithSole [.Subscript o i p2] e pos.line X.env = pure false) (hw : swappedStores [.Subscript o i p2] e X.env = pure none) (h1 : (assignEach [.Subscript o i p2] X.env).map (·.2) = [assign (.Subscript o i p2) X.env]) :
    PS X (.Assign [.Subscript o i p2] e pos) (tS X.K cl W (mSetIx mo mi me)) := by
  refine PS.weak (ps_asg he (pg_sub ho hi set_list ha) hs hw h1) fun D σ H h => ?_
  obtain ⟨F, cs, ρ, st, r, w, en, hm, ot⟩ := h
  refine goS w en hm ot fun F1 cs1 v vv st1 H1 e1 w1 en1 r1 h1 o1 => ?_
  refine goS w1 en1 h1 o1 fun F2 cs2 x vx st2 H2 e2 w2 en2 r2 h2 o2 => ?_
  refine goS w2 en2 h2 o2 fun F3 cs3 y vy st3 H3 e3 w3 en3 r3 h3 o3 => ?_
  have r1' := (Rp.mono e2 r1).mono e3
  have r2' := Rp.mono e3 r2
  cases q : setIx x y v st3 with
  | none => rw [q] at h3; cases h3
  | some st4 =>
    rw [q] at h3
    cases h3
    unfold setIx at q
    split at q
    · rename_i n k
      cases r2' with
      | cell hc =>
        cases r3
        split at q
        · rename_i l hl
          obtain ⟨⟨us, hu, ru⟩, hF⟩ := w3.ok n _ _ hl hc rfl
          split at q
          · rename_i j hj
            cases q
            refine ⟨_, us, k, j, rfl, rfl, hu, by rw [← ru.length]; exact hj, ?_⟩
            exact o3 F3 cs3 σ _ Ext.refl (w3.setCell hl hc rfl ⟨_, rfl, ru.set r1' j⟩) en3
          · cases q
        · cases q
    · cases q
def mApp (o e : Rho → M D) : MS := fun ρ => bindS (o ρ) ρ fun x => bindS (e ρ) ρ fun v st => match x with
  | .cell n => (match st[n]? with
    | some (.lst l) => if l.length < LIM then some (.nx ρ (st.set n (.lst (l ++ [v])))) else none
    | _ => none)
  | _ => none
end
end MC

/-! MC, part 10: t[::-1], a, b = x, y; small dicts. -/
namespace MC
open PySem PySem.Spec PyProof.Rows L2 PySem.Calls

section
variable {prog : Program} {w : World} {A : Around} {E : Value → Shared → Prop} {s : Shared}
theorem placesRev (n : Nat) : Builtin.Slice.slicePlaces ((n : Int) - 1) (-1) (-1) = n := by
  unfold Builtin.Slice.slicePlaces
  have h1 : ¬ ((-1 : Int) > 0) := by decide
  simp only [h1, if_false]
  rw [show (-(-1) : Int) = 1 by decide, Int.ediv_one]
  split <;> omega
theorem sliceRev {sl : Addr} {n : Nat} {t : Tok} {Q : Int × Int × Nat → Shared → Prop} (hs : s.heap.IsSliceOf sl .none .none (.int (-1) t))
    (h : Q (((n : Int) - 1), -1, n) s) : wpAny (model prog w) A (Builtin.Slice.sliceApplied (.ref sl) (pure (n : Int))) Q E s := by
  obtain ⟨os, hos, hcs, hds⟩ := id hs
  unfold Builtin.Slice.sliceApplied Builtin.Slice.sliceFields
  refine wpAny_bind (wpAny_bind (wpAny_field hos hds (x := .none) rfl (wpAny_bind (wpAny_field hos hds (x := .none) rfl (wpAny_bind (wpAny_field hos hds (x := .int (-1) t) rfl (wpAny_pure ?_)))))))
  refine wpAny_bind (slicePart_int ?_)
  show wpAny _ _ (if ((-1 : Int) == 0) = true then _ else _) _ _ s
  rw [if_neg (by decide)]
  refine wpAny_bind (slicePart_none (wpAny_bind (slicePart_none (wpAny_bind (wpAny_pure ?_)))))
  show wpAny _ _ (pure (((n : Int) - 1), (-1 : Int), Builtin.Slice.slicePlaces ((n : Int) - 1) (-1) (-1))) _ _ s
  rw [placesRev]
  exact wpAny_pure h
theorem fmCongr {α β : Type} {f g : α → Option β} : ∀ {l : List α}, (∀ a ∈ l, f a = g a) → l.filterMap f = l.filterMap g
  | [], _ => rfl
  | a :: l, h => by
    rw [List.filterMap_cons, List.filterMap_cons, h a List.mem_cons_self, fmCongr fun b hb => h b (List.mem_cons_of_mem _ hb)]
theorem pickRev (xs : Array Value) : ((List.range xs.size).filterMap fun (m : Nat) => xs[(((xs.size : Int) - 1) + (m : Int) * (-1)).toNat]?).toArray = xs.toList.reverse.toArray := by
  have e : ((List.range xs.size).filterMap fun (m : Nat) => xs[(((xs.size : Int) - 1) + (m : Int) * (-1)).toNat]?) = ((List.range xs.size).map fun k => xs.size - 1 - k).filterMap (xs[·]?) := by
    rw [List.filterMap_map]
    apply fmCongr
    intro m hm
    have := List.mem_range.mp hm
    have e2 : (((xs.size : Int) - 1) + (m : Int) * (-1)).toNat = xs.size - 1 - m := by omega
    rw [e2]
    rfl
  rw [e, PySem.W.krv_range, List.filterMap_reverse, PySem.W.krv_all]
theorem getItem_tuple_rev {t sl : Addr} {items : Array Value} {tk : Tok} {Q : Value → Shared → Prop} (ht : IsTup s.heap t items) (hs : s.heap.IsSliceOf sl .none .none (.int (-1) tk))
    (h : Q (.ref s.heap.objs.size) { s with heap := s.heap.push { cls := .type "tuple", data := .seq items.toList.reverse.toArray } })
    (hsz : items.size ≤ sizeLine) : wpAny (model prog w) A (getItem (.ref t) (.ref sl)) Q E s := by
  have htake : sizeOk (.seq items.toList.reverse.toArray) := by
    show items.toList.reverse.toArray.size ≤ sizeLine
    rw [List.size_toArray, List.length_reverse, Array.length_toList]
    omega
  obtain ⟨os, hos, hcs, hds⟩ := id hs
  have hTs : s.TypeIs (.ref sl) "slice" := ⟨os, hos, hcs⟩
  unfold getItem
  try with_reducible refine wpAny_holding ?_
  first | refine wpAny_bind (wpAny_pure ?_) | skip
  refine wpAny_bind (wpAny_sequenceKey ht.typeIs (by decide) ?_)
  refine wpAny_bind (wpAny_callSpecial?_slot (name := Str.ofString "__getitem__") ht.typeIs PyProof.Rows.slot_tuple_getitem
    (wpAny_call_entry PyProof.Rows.slot_tuple_getitem ht.typeIs entry_tuple_getitem ?_ (args_tuple_getitem _ _)))
  show wpAny _ _ (Builtin.Tuple.tupleItemsOf (.ref t) >>= _) _ _ s
  refine wpAny_bind (tupleItemsOf_ ht ?_)
  refine wpAny_bind (wpAny_typeOf hTs ?_)
  rw [if_pos (by decide)]
  refine wpAny_bind (sliceRev hs ?_)
  have hno : ¬ (((((items.size : Nat) : Int) - 1) == 0 && (-1 : Int) == 1 && items.size == items.size) = true) := by
    intro q
    rw [Bool.and_eq_true, Bool.and_eq_true] at q
    exact absurd q.1.2 (by decide)
  show wpAny _ _ (if ((((items.size : Nat) : Int) - 1) == 0 && (-1 : Int) == 1 && items.size == items.size) = true then _ else _) _ _ s
  rw [if_neg hno, pickRev]
  first
    | exact wpAny_bind (m := Builtin.Tuple.tupleExact _) (wpAny_newObj_type (wpAny_pure ⟨_, rfl, wpAny_pure h⟩) htake)
    | exact wpAny_bind (m := Builtin.Tuple.tupleExact _) (wpAny_newObj_type (wpAny_bind (wpAny_pure (wpAny_pure ⟨_, rfl, wpAny_pure h⟩))) htake)
    | exact wpAny_bind (wpAny_bind (m := Builtin.Tuple.tupleExact _) (wpAny_newObj_type (wpAny_pure (wpAny_pure ⟨_, rfl, wpAny_pure h⟩)) htake))
    | exact wpAny_bind (wpAny_bind (m := Builtin.Tuple.tupleExact _) (wpAny_newObj_type (wpAny_pure ⟨_, rfl, wpAny_pure h⟩) htake))
end
section
variable {X : Cx} {cl : Nat → Addr} {W : WX}
/-- t[::-1] -/
def tRev (K : PySem.W.Frag) (te : TE) : TE := fun σ H Q => te σ H fun x H1 => ∃ a xs, x = .ref a ∧ SqT K H1 a xs ∧ ∀ p, H1 p = none → Q (.ref p) (upd H1 p (.tup xs.reverse))
theorem pe_rev {e : Expr} {te : TE} {q1 q2 p2 pos : Pos} {j : Nat} (he : PE X e te) : PE X (.Subscript e (.Slice none none (some (.UnaryOp .USub (.Constant (.int 1) j q1) q2)) p2) pos) (tRev X.K te) := by
  refine ⟨fun pins s σ H Q I h => ?_⟩
  refine Subscript_ (thn (he.run pins s σ H _ I h) fun v s1 ⟨x, H1, I1, r1, a, xs, ex, hx, q⟩ => ?_)
  subst ex
  cases r1
  refine wpAny_Slice ?_
  rw [evalPart_none]
  refine wpAny_pure ?_
  refine wpAny_pure ?_
  rw [evalPart_some]
  have hn : PE X (.UnaryOp .USub (.Constant (.int 1) j q1) q2) _ := pe_un un_neg pe_int
  refine thn (hn.run pins s1 σ H1 (fun y H2 => y = .int (-1) ∧ H2 = H1) I1 ⟨1, rfl, rfl, rfl⟩) fun u s2 ⟨y, H2, I2, ru, ey, eH⟩ => ?_
  subst ey eH
  obtain ⟨tk, rfl⟩ := ru
  have I4 : Inv X pins σ H2 { s2 with heap := s2.heap.push { cls := .type "slice", data := .fields #[.none, .none, .int (-1) tk] } } := I2.kept (t' := s2.toks) fun b ob q => Heap.get?_push_of_some _ q
  obtain ⟨its, r, ht, hz⟩ := I4.tuple hx
  have hlen : its.toArray.size = xs.length := by rw [List.size_toArray]; exact r.length.symm
  refine tail_any (ops := [.ref a, .ref s2.heap.objs.size]) ht.typeIs PyProof.Rows.slot_tuple_getitem.lookup (getItem_tuple_rev ht (Heap.IsSliceOf.new ..) ?_ (by rw [hlen]; exact hz)) (by with_unfolding_all rfl)
  refine ⟨.ref _, _, I4.laid (t' := s2.toks) (o := .tup xs.reverse) (fun b ob q => Heap.get?_push_of_some _ q) (Nat.le_refl _) ?_, rfl, q _ (I4.hok.fresh (Nat.le_refl _))⟩
  exact ⟨by rw [List.length_reverse]; exact hz, _, r.reverse, IsTup.new _ _⟩
def revB : D → Option D
  | .tup l => some (.tup l.reverse)
  | _ => none
def mRev (a : Rho → M D) : Rho → M D := fun ρ => (a ρ).bind fun x => M.opt (revB x)
theorem se_rev {e : Expr} {ma : Rho → M D} {q1 q2 p2 pos : Pos} {j : Nat} (he : PE X e (tE X.K cl W ma)) : PE X (.Subscript e (.Slice none none (some (.UnaryOp .USub (.Constant (.int 1) j q1) q2)) p2) pos) (tE X.K cl W (mRev ma)) := by
  refine PE.weak (pe_rev he) fun σ H Q h => ?_
  obtain ⟨F, cs, ρ, st, z, w, en, hm, o⟩ := h
  refine go w en hm o fun F1 cs1 x vx st1 H1 e1 w1 en1 r1 h1 o1 => ?_
  obtain ⟨d, e, rfl⟩ := optD h1
  cases r1 with
  | tup s r =>
    cases e
    exact ⟨_, _, rfl, w1.ext.sqT s, fun p hp => o1.new w1 hp (.tup (.inl (.inl upd_same)) ((r.reverse).mono (w1.new hp).1))⟩
  | _ => cases e

/-! ### a, b = x, y -/
def mPar (i j : Nat) (a : Rho → M (List D)) : MS := fun ρ => bindS (a ρ) ρ fun ds st => match ds with
  | [x, y] => some (.nx ((ρ.set i (some x)).set j (some y)) st)
  | _ => none
theorem ss_par {i j : Nat} {x y : Str} {a b : Expr} {ma : Rho → M (List D)} {px py pt pos : Pos} {kt k2 : Nat} {pt2 : Pos} (g : Good X W) (hi : X.N[i]? = some x) (hj : X.N[j]? = some y) (hij : i ≠ j)
    (hx : X.env.scope.names.lookup x = some .local) (hy : X.env.scope.names.lookup y = some .local) (ha : PA X [a, b] (tA X.K cl W ma))
    (hw : swappedStores [.Tuple [.Name x px, .Name y py] kt pt] (.Tuple [a, b] k2 pt2) X.env = pure (some [x, y]))
    (hs : swapsWithSole [.Tuple [.Name x px, .Name y py] kt pt] (.Tuple [a, b] k2 pt2) pos.line X.env = pure false) :
    PS X (.Assign [.Tuple [.Name x px, .Name y py] kt pt] (.Tuple [a, b] k2 pt2) pos) (tS X.K cl W (mPar i j ma)) := by
  refine PS.weak (ps_par g.calm g.nd hi hj hij hx hy ha hw hs) fun D σ H h => ?_
  obtain ⟨F, cs, ρ, st, r, w, en, hm, o⟩ := h
  refine goS w en hm o fun F1 cs1 ds vs st1 H1 e1 w1 en1 r1 h1 o1 => ?_
  split at h1
  · cases h1
    cases r1 with
    | cons r1 t =>
      cases t with
      | cons r2 t =>
        cases t
        exact ⟨_, _, rfl, o1 F1 cs1 _ H1 Ext.refl w1 ((en1.set r1 i).set r2 j)⟩
  · cases h1

/-! ### {}, {k: constant} -/
def mDic (d : D) : Rho → M D := fun _ => M.ret d
theorem se_dic0 {pos : Pos} : PE X (.Dict [] [] pos) (tE X.K cl W (mDic (.dic [] []))) := by
  refine PE.weak pe_dnewK fun σ H Q h => ?_
  obtain ⟨F, cs, ρ, st, z, w, en, hm, o⟩ := h
  cases some_ret hm
  exact fun p hp => o.new w hp (.dic (ws := []) upd_same rfl .nil)
theorem se_dic1 {k : Key} {d : D} {v : V} {ek ev : Expr} {pos : Pos} (hk : PE X ek (tC (kV k))) (hv : PE X ev (tC v)) (hr : ∀ F cs, Rp X.K F cs d v) : PE X (.Dict [some ek] [ev] pos) (tE X.K cl W (mDic (.dic [k] [d]))) := by
  refine PE.weak (pe_disp (pps_cons hk hv pps_nil) rfl rfl (by simp) (by simp)) fun σ H Q h => ?_
  obtain ⟨F, cs, ρ, st, z, w, en, hm, o⟩ := h
  cases some_ret hm
  intro p hp
  refine ⟨upd_same, [(k, v)], rfl, by simp, ?_⟩
  have := o.new w hp (u := .dK ([k].zip [v])) (.dic (ws := [v]) upd_same rfl (.cons (hr _ _) .nil))
  have e : upd (upd H p (.dK [])) p (.dK (mergeK [] [(k, v)])) = upd H p (.dK ([k].zip [v])) := by
    funext b
    unfold upd
    by_cases hb : b = p
    · simp [hb]; rfl
    · simp [hb]
  rw [e]
  exact this
end
end MC

/-! MC, part 11: the terms, what they tell, the look that a term is a text's; soundness. -/
namespace MC
open PySem PySem.Spec PyProof.Rows L2

/-! ### the terms -/
inductive E where
  | var (i : Nat) | con (c : Const) | glo (x : Str) | bty (n : String)
  | call (f : Nat) (l : List E) | prim (p : Prim) (l : List E)
  | bin (op : Operator) (a b : E) | cmp (op : CmpOp) (a b : E) | chain (o1 o2 : CmpOp) (a b c : E)
  | and (l : List E) | or (l : List E) | not (a : E) | neg (a : E) | ife (c a b : E)
  | tup (l : List E) | lst (l : List E) | lstC (l : List E)
  | ix (a b : E) | sl (a lo hi : E) | slF (a lo : E) | slT (a hi : E) | slA (a : E)
  | rng1 (a : E) | rng2 (a b : E) | rev (a : E) | dic0 | dic1 (k : Key) (c : Const)
  | comp (t : Tg) (own : List (Str × Nat)) (it e : E) | compIf (t : Tg) (own : List (Str × Nat)) (it c e : E)
inductive S where
  | asg (t : Tg) (e : E) | asgC (i : Nat) (e : E) | setIx (o i e : E) | ret (e : E) | retN | expr (e : E)
  | par (i j : Nat) (l : List E) | ife (c : E) (a b : List S) | for (t : Tg) (it : E) (b : List S) | pass | brk | cont | frz (i : Nat)
/-- what a term tells: its value, its truth as a test, its items when it is walked -/
structure Sm where
  v : Rho → M D
  t : Rho → M Bool
  i : Rho → M (List D)
def Sm.of (v : Rho → M D) : Sm := ⟨v, fun ρ => (v ρ).bind truF, fun ρ => (v ρ).bind itS⟩
def Sm.bl (v : Rho → M D) : Sm := ⟨v, fun ρ => (v ρ).bind isBl, fun ρ => (v ρ).bind itS⟩
def Sm.it (i : Rho → M (List D)) : Sm := ⟨fun _ => M.no, fun _ => M.no, i⟩
def conD : Const → Option D
  | .none => some .non
  | .bool b => some (.bl b)
  | .int i => some (.int i)
  | .str x => some (.str x)
  | _ => none
def mArgs : List Sm → Rho → M (List D)
  | [] => mNil
  | s :: l => mCons s.v (mArgs l)
def mAnds : List Sm → Rho → M D
  | [] => fun _ => M.no
  | [s] => s.v
  | s :: l => mAndV s.v (mAnds l)
def mOrs : List Sm → Rho → M D
  | [] => fun _ => M.no
  | [s] => s.v
  | s :: l => mOrV s.v (mOrs l)
def tAnds : List Sm → Rho → M Bool
  | [] => fun _ => M.no
  | [s] => s.t
  | s :: l => mAndT s.t (tAnds l)
def tOrs : List Sm → Rho → M Bool
  | [] => fun _ => M.no
  | [s] => s.t
  | s :: l => mOrT s.t (tOrs l)
section
variable (call : Nat → List D → M D) (gl : List (Str × D))
mutual
def ev : E → Sm
  | .var i => .of (mVar i)
  | .con c => .of fun _ => M.opt (conD c)
  | .glo x => .of fun _ => M.opt (gl.lookup x)
  | .bty n => .of (mCon (.ty n))
  | .call f l => .of (mCall (call f) (mArgs (evs l)))
  | .prim p l => .of (mPrim p (mArgs (evs l)))
  | .bin op a b => .of (mBin (binF op) (ev a).v (ev b).v)
  | .cmp op a b => .bl (mBin (cmpF op) (ev a).v (ev b).v)
  | .chain o1 o2 a b c => .bl (mChain (cmpF o1) (cmpF o2) (ev a).v (ev b).v (ev c).v)
  | .and l => ⟨mAnds (evs l), tAnds (evs l), fun _ => M.no⟩
  | .or l => ⟨mOrs (evs l), tOrs (evs l), fun _ => M.no⟩
  | .not a => ⟨mNotV (ev a).v, mNotT (ev a).t, fun _ => M.no⟩
  | .neg a => .of (mNeg (ev a).v)
  | .ife c a b => ⟨mIf (ev c).t (ev a).v (ev b).v, fun _ => M.no, fun ρ => (mIf (ev c).t (ev a).v (ev b).v ρ).bind itS⟩
  | .tup l => .of (mTup (mArgs (evs l)))
  | .lst l => .of (mLst (mArgs (evs l)))
  | .lstC l => .of (mLstC (mArgs (evs l)))
  | .ix a b => .of (mBin ixF (ev a).v (ev b).v)
  | .sl a lo hi => .of (mSlice (ev a).v (mPart (ev lo).v) (mPart (ev hi).v))
  | .slF a lo => .of (mSlice (ev a).v (mPart (ev lo).v) mPart0)
  | .slT a hi => .of (mSlice (ev a).v mPart0 (mPart (ev hi).v))
  | .slA a => .of (mSlice (ev a).v mPart0 mPart0)
  | .rev a => .of (mRev (ev a).v)
  | .dic0 => .of (mDic (.dic [] []))
  | .dic1 k c => .of fun _ => M.opt ((conD c).map fun d => .dic [k] [d])
  | .rng1 a => .it fun ρ => (mCons (ev a).v mNil ρ).bind rng1F
  | .rng2 a b => .it fun ρ => (mCons (ev a).v (mCons (ev b).v mNil) ρ).bind rng2F
  | .comp t own it e => .of (mComp t (own.map (·.2)) (ev it).i mYes (ev e).v)
  | .compIf t own it c e => .of (mComp t (own.map (·.2)) (ev it).i (ev c).t (ev e).v)
def evs : List E → List Sm
  | [] => []
  | e :: l => ev e :: evs l
end
mutual
def evS : S → MS
  | .asg t e => mAsg t (ev call gl e).v
  | .asgC i e => mAsg (.nm i) (ev call gl e).v
  | .par i j l => mPar i j (mArgs (evs call gl l))
  | .setIx o i e => mSetIx (ev call gl o).v (ev call gl i).v (ev call gl e).v
  | .ret e => mRet (ev call gl e).v
  | .retN => mRetN
  | .expr e => mDrop (ev call gl e).v
  | .ife c a b => mIfS (ev call gl c).t (evSs a) (evSs b)
  | .for t it b => mFor t (ev call gl it).i (evSs b)
  | .pass => mNext
  | .brk => mBrk
  | .cont => mCt
  | .frz i => mFrz i
def evSs : List S → MS
  | [] => mNext
  | s :: l => mSeq (evS s) (evSs l)
end
end
/-- a def of the text -/
structure Fn where
  name : Str
  ps : List Str
  N : List Str
  body : List S
def callD (P : List Fn) (gl : List (Str × D)) : Nat → Nat → List D → M D
  | 0, _, _ => M.no
  | n + 1, i, ds => match P[i]? with
    | none => M.no
    | some f => if ds.length = f.ps.length then (fun st => match evSs (callD P gl n) gl f.body (ds.map some ++ List.replicate (f.N.length - ds.length) none) st with
        | some (.rt d st') => some (.ok d st')
        | some (.nx _ st') => some (.ok .non st')
        | some (.ex c _ st') => some (.ex c st')
        | _ => none) else M.no

/-! ### the look: a term is a text's -/
structure Dsc where
  sc : Scope
  N : List Str
  fn : Str → Bool
/-- the text's names: defs by place, constants, names that are no module's -/
structure Gm where
  fns : List Str
  gl : List (Str × D)
  free : List Str
def visB (sc : Scope) (x : Str) : Bool := match sc.names.lookup x with
  | some .local => true
  | some .cell => true
  | some .free => true
  | _ => false
def glB (sc : Scope) (x : Str) : Bool := (match sc.names.lookup x with
  | some .globalImplicit => true
  | _ => false) && !(x == ("__debug__" : Str))
def tyCs : List String := ["int", "bool", "str", "tuple", "list", "dict"]
def locB (d : Dsc) (x : Str) : Bool := match d.sc.names.lookup x with
  | some .local => true
  | some .cell => d.fn x
  | _ => false
mutual
def chkT (d : Dsc) : Tg → Expr → Bool
  | .nm i, .Name x _ => decide (d.N[i]? = some x) && locB d x
  | .tp l, .Tuple es _ _ => chkTs d l es
  | _, _ => false
def chkTs (d : Dsc) : List Tg → List Expr → Bool
  | [], [] => true
  | t :: ts, e :: es => chkT d t e && chkTs d ts es
  | _, _ => false
end
def blkD (d : Dsc) (scope : Scope) : Dsc := ⟨relS scope d.sc, d.N, fun x => scope.names.lookup x == some .cell⟩
def slotsIn (t : Tg) (own : List (Str × Nat)) : Bool := t.slots.all fun i => (own.map (·.2)).contains i
def keyC : Key → Const
  | .inl i => .int i
  | .inr x => .str x
mutual
def chk (Γ : Gm) (d : Dsc) : E → Expr → Bool
  | .var i, .Name x _ => decide (d.N[i]? = some x) && (visB d.sc x && (!(x == ("__debug__" : Str)) && !(x == ("__classdict__" : Str))))
  | .con c, .Constant c' _ _ => decide (c = c') && (conD c).isSome
  | .glo x, .Name y _ => decide (x = y) && (glB d.sc y && (Γ.gl.lookup x).isSome)
  | .bty n, .Name y _ => decide (y = Str.ofString n) && (glB d.sc y && (Γ.free.contains y && tyCs.contains n))
  | .call f l, .Call (.Name x _) es [] _ => decide (Γ.fns[f]? = some x) && (glB d.sc x && chks Γ d l es)
  | .prim p l, .Call (.Name x _) (e :: es) [] _ => decide (x = p.name) && (glB d.sc x && (Γ.free.contains x && chks Γ d l (e :: es)))
  | .bin op a b, .BinOp a' op' b' _ => decide (op = op') && (chk Γ d a a' && chk Γ d b b')
  | .cmp op a b, .Compare a' [op'] [b'] _ => decide (op = op') && (chk Γ d a a' && chk Γ d b b')
  | .chain o1 o2 a b c, .Compare a' [p1, p2] [b', c'] _ => decide (o1 = p1) && (decide (o2 = p2) && (chk Γ d a a' && (chk Γ d b b' && chk Γ d c c')))
  | .and l, .BoolOp .And es _ => !l.isEmpty && chks Γ d l es
  | .or l, .BoolOp .Or es _ => !l.isEmpty && chks Γ d l es
  | .not a, .UnaryOp .Not a' _ => chk Γ d a a'
  | .neg a, .UnaryOp .USub a' _ => chk Γ d a a'
  | .ife c a b, .IfExp c' a' b' _ => chk Γ d c c' && (chk Γ d a a' && chk Γ d b b')
  | .tup l, .Tuple es _ _ => chks Γ d l es
  | .lst l, .List es _ => chks Γ d l es
  | .lstC l, .List es _ => chks Γ d l es
  | .ix a b, .Subscript a' b' _ => chk Γ d a a' && chk Γ d b b'
  | .sl a lo hi, .Subscript a' (.Slice (some lo') (some hi') none _) _ => chk Γ d a a' && (chk Γ d lo lo' && chk Γ d hi hi')
  | .slF a lo, .Subscript a' (.Slice (some lo') none none _) _ => chk Γ d a a' && chk Γ d lo lo'
  | .slT a hi, .Subscript a' (.Slice none (some hi') none _) _ => chk Γ d a a' && chk Γ d hi hi'
  | .slA a, .Subscript a' (.Slice none none none _) _ => chk Γ d a a'
  | .rev a, .Subscript a' (.Slice none none (some (.UnaryOp .USub (.Constant (.int j) _ _) _)) _) _ => decide (j = 1) && chk Γ d a a'
  | .dic0, .Dict [] [] _ => true
  | .dic1 k c, .Dict [some (.Constant k' _ _)] [.Constant c' _ _] _ => decide (keyC k = k') && (decide (c = c') && (conD c).isSome)
  | .rng1 a, .Call (.Name x _) [a'] [] _ => decide (x = ("range" : Str)) && (glB d.sc x && (Γ.free.contains x && chk Γ d a a'))
  | .rng2 a b, .Call (.Name x _) [a', b'] [] _ => decide (x = ("range" : Str)) && (glB d.sc x && (Γ.free.contains x && (chk Γ d a a' && chk Γ d b b')))
  | .comp t own it e, .ListComp e' [⟨tg, it', [], 0⟩] scope _ => chk Γ d it it' && (chkT (blkD d scope) t tg && (chk Γ (blkD d scope) e e' && (blkC d.N d.sc scope own && slotsIn t own)))
  | .compIf t own it c e, .ListComp e' [⟨tg, it', [c'], 0⟩] scope _ => chk Γ d it it' && (chkT (blkD d scope) t tg && (chk Γ (blkD d scope) c c' && (chk Γ (blkD d scope) e e' && (blkC d.N d.sc scope own && slotsIn t own))))
  | _, _ => false
def chks (Γ : Gm) (d : Dsc) : List E → List Expr → Bool
  | [], [] => true
  | e :: l, x :: xs => chk Γ d e x && chks Γ d l xs
  | _, _ => false
end
/-- an expression without odd forms -/
def plainX : Expr → Bool
  | .Starred .. => false
  | .Set .. => false
  | .Slice .. => false
  | .GeneratorExp .. => false
  | _ => true
theorem chk_plain {Γ : Gm} {d : Dsc} {e : E} {x : Expr} (h : chk Γ d e x = true) : plainX x = true := by
  cases x <;> first | rfl | (cases e <;> (unfold chk at h; cases h))
theorem star_plain {x : Expr} (h : plainX x = true) (xs : List Expr) (env : Env) : starEach (x :: xs) env = (false, eval x env) :: starEach xs env := by
  cases x <;> first | rfl | cases h
theorem marks_plain {x : Expr} (h : plainX x = true) (op : CmpOp) : behindInMarks op x = false := by
  cases x <;> first | rfl | cases h
theorem folded_plain {x : Expr} (h : plainX x = true) (env : Env) (v : Value) : foldedSetIterable x env v = pure v := by
  cases x <;> first | rfl | cases h
theorem index_plain {x : Expr} (h : plainX x = true) : PlainIx x := by
  intro o i
  cases x <;> first | rfl | cases h
theorem backTo_plain {Γ : Gm} {d : Dsc} {pos : Pos} {env : Env} : ∀ {l : List E} {xs : List Expr}, chks Γ d l xs = true → (backTo pos (starEach xs env)).any (·.1) = false
  | [], [], _ => rfl
  | [], _ :: _, h => by unfold chks at h; cases h
  | _ :: _, [], h => by unfold chks at h; cases h
  | e :: l, x :: xs, h => by
    unfold chks at h
    rw [Bool.and_eq_true] at h
    rw [star_plain (chk_plain h.1)]
    have := backTo_plain (pos := pos) (env := env) h.2
    first
      | exact this
      | (show (false || (backTo pos (starEach xs env)).any (·.1)) = false; rw [this]; rfl)
end MC

/-! MC, part 12: soundness of the look at expressions. -/
namespace MC
open PySem PySem.Spec PyProof.Rows L2

/-- what the text's place gives, whatever the frame -/
structure OkC (Γ : Gm) (n : Nat) (cl : Nat → Addr) (call : Nat → List D → M D) (X : Cx) : Prop where
  km : KMod X.K
  room : Room n X.A
  free : ∀ x ∈ Γ.free, X.mg x = none
  gl : ∀ x d, Γ.gl.lookup x = some d → ∃ (u : Value) (v : V), X.mg x = some u ∧ RelV v u ∧ ∀ F cs, Rp X.K F cs d v
  fns : ∀ i x, Γ.fns[i]? = some x → ∃ (f : Addr) (fd : FuncData) (ps : List Str), X.mg x = some (.ref f) ∧ PySem.W.keepIn X.K (.ref f) = true ∧ Binds X.K fd ps [] ∧
    Fk X.prog X.w X.K X.mg X.base n f fd ps (spD X.K cl ps.length (call i)) ∧ ∀ ds st r, call i ds st = some r → ds.length = ps.length
structure OkX (Γ : Gm) (n : Nat) (cl : Nat → Addr) (call : Nat → List D → M D) (X : Cx) (W : WX) (d : Dsc) : Prop where
  c : OkC Γ n cl call X
  g : Good X W
  sc : X.env.scope = d.sc
  N : X.N = d.N
  fn : X.fn = d.fn
section
variable {Γ : Gm} {n : Nat} {cl : Nat → Addr} {call : Nat → List D → M D} {X : Cx} {W : WX} {d : Dsc}
theorem OkX.blk (o : OkX Γ n cl call X W d) (s : Shared) (H : Hp) (scope : Scope) (C : Addr) (c : List (Str × Addr)) (fp : List Addr) : OkX Γ n cl call (X.blk s H scope (compEnvC scope c C X.env) fp) Wf (blkD d scope) :=
  ⟨⟨o.c.km, o.c.room, o.c.free, o.c.gl, o.c.fns⟩, ⟨o.g.calm, o.g.nd, takes0, o.g.gu, o.g.un⟩, by
    show relS scope X.env.scope = relS scope d.sc
    rw [o.sc], o.N, rfl⟩
theorem vis_of {sc : Scope} {x : Str} (h : visB sc x = true) : Vis sc x := by
  unfold visB at h
  split at h
  · rename_i q; exact .inl q
  · rename_i q; exact .inr (.inl q)
  · rename_i q; exact .inr (.inr q)
  · cases h
theorem gl_of {x : Str} (o : OkX Γ n cl call X W d) (h : glB d.sc x = true) : Gl X x ∧ (x == ("__debug__" : Str)) = false := by
  unfold glB at h
  rw [Bool.and_eq_true] at h
  obtain ⟨h1, h2⟩ := h
  refine ⟨?_, by simpa using h2⟩
  split at h1
  · rename_i q
    show X.env.scope.names.lookup x = _
    rw [o.sc]
    exact q
  · cases h1
theorem loc_of {x : Str} (o : OkX Γ n cl call X W d) (h : locB d x = true) : Loc X.env.scope x ∧ (X.fn x = true ∨ X.env.scope.names.lookup x = some .local) := by
  unfold locB at h
  rw [o.fn, o.sc]
  split at h
  · rename_i q; exact ⟨.inl q, .inr q⟩
  · rename_i q; exact ⟨.inr q, .inl h⟩
  · cases h
theorem ne_str {x y : Str} (h : (!(x == y)) = true) : (x == y) = false := by simpa using h

/-- a term's readings hold of a text's expression -/
structure Snd (cl : Nat → Addr) (X : Cx) (W : WX) (m : Sm) (x : Expr) : Prop where
  v : PE X x (tE X.K cl W m.v)
  t : PT X x (tT X.K cl W m.t)
  i : ∀ tg, PI X tg x (tI X.K cl W m.i)
theorem Snd.of {v : Rho → M D} {x : Expr} (h : PE X x (tE X.K cl W v)) (he : ∀ whole, isTrue x X.env whole = (do let v ← whole; standAt x.pos; holding [v] (truthy v))) : Snd cl X W (.of v) x :=
  ⟨h, st_truth h he, fun tg => si_seq h⟩
theorem tg_no {α β : Type} {K : PySem.W.Frag} {rep : Hp → CS → α → β → Prop} {σ : L2.St} {H : Hp} {Q : β → Hp → Prop} (h : tG K cl W rep (fun _ => M.no) σ H Q) : False := by
  obtain ⟨F, cs, ρ, st, r, w, en, hm, o⟩ := h
  cases hm
theorem pe_false {x : Expr} : PE X x (tE X.K cl W fun _ => M.no) := ⟨fun _ _ _ _ _ _ h => (tg_no h).elim⟩
theorem pt_false {x : Expr} : PT X x (tT X.K cl W fun _ => M.no) := ⟨fun _ _ _ _ _ _ h => (tg_no h).elim⟩
theorem pi_false {tg x : Expr} : PI X tg x (tI X.K cl W fun _ => M.no) := ⟨fun _ _ _ _ _ _ h => (tg_no h).elim⟩
theorem Snd.bl {v : Rho → M D} {x : Expr} (h : PE X x (tE X.K cl W v)) (ht : PT X x (tT X.K cl W fun ρ => (v ρ).bind isBl)) : Snd cl X W (.bl v) x := ⟨h, ht, fun tg => si_seq h⟩
theorem Snd.it {i : Rho → M (List D)} {x : Expr} (h : ∀ tg, PI X tg x (tI X.K cl W i)) : Snd cl X W (.it i) x := ⟨pe_false, pt_false, h⟩
theorem con_ok {c : Const} {j : Nat} {pos : Pos} {dd : D} (h : conD c = some dd) : ∃ v, PE X (.Constant c j pos) (tC v) ∧ ∀ F cs, Rp X.K F cs dd v := by
  cases c with
  | none => cases h; exact ⟨_, pe_non, fun _ _ => .non⟩
  | bool b => cases h; exact ⟨_, pe_bl, fun _ _ => .bl b⟩
  | int i => cases h; exact ⟨_, pe_int, fun _ _ => .int i⟩
  | str i => cases h; exact ⟨_, pe_str, fun _ _ => .str i⟩
  | _ => cases h
inductive SndL (cl : Nat → Addr) (X : Cx) (W : WX) : List Sm → List Expr → Prop
  | nil : SndL cl X W [] []
  | cons {m : Sm} {x : Expr} {ms : List Sm} {xs : List Expr} : Snd cl X W m x → plainX x = true → SndL cl X W ms xs → SndL cl X W (m :: ms) (x :: xs)
theorem SndL.args : ∀ {ms : List Sm} {xs : List Expr}, SndL cl X W ms xs → PA X xs (tA X.K cl W (mArgs ms))
  | _, _, .nil => sa_nil
  | _, _, .cons a p r => sa_cons a.v r.args (star_plain p _ _)
theorem SndL.ands {pos : Pos} : ∀ {ms : List Sm} {xs : List Expr}, SndL cl X W ms xs → ms ≠ [] → PE X (.BoolOp .And xs pos) (tE X.K cl W (mAnds ms)) ∧ PW X (.BoolOp .And xs pos) (tT X.K cl W (tAnds ms))
  | _, _, .nil, h => absurd rfl h
  | _, _, .cons a p .nil, _ => ⟨se_one a.v, st_and1 a.t⟩
  | _, _, .cons a p (.cons b q r), _ => by
    have ih := SndL.ands (pos := pos) (SndL.cons b q r) (by simp)
    exact ⟨se_and a.v ih.1, st_and a.t ih.2⟩
theorem SndL.ors {pos : Pos} : ∀ {ms : List Sm} {xs : List Expr}, SndL cl X W ms xs → ms ≠ [] → PE X (.BoolOp .Or xs pos) (tE X.K cl W (mOrs ms)) ∧ PW X (.BoolOp .Or xs pos) (tT X.K cl W (tOrs ms))
  | _, _, .nil, h => absurd rfl h
  | _, _, .cons a p .nil, _ => ⟨se_one a.v, st_or1 a.t⟩
  | _, _, .cons a p (.cons b q r), _ => by
    have ih := SndL.ors (pos := pos) (SndL.cons b q r) (by simp)
    exact ⟨se_or a.v ih.1, st_or a.t ih.2⟩
theorem SndL.plain {pos : Pos} {env : Env} : ∀ {ms : List Sm} {xs : List Expr}, SndL cl X W ms xs → (backTo pos (starEach xs env)).any (·.1) = false
  | _, _, .nil => rfl
  | _, _, .cons a p r => by
    rw [star_plain p]
    have := SndL.plain (pos := pos) (env := env) r
    first
      | exact this
      | (show (false || (backTo pos (starEach _ env)).any (·.1)) = false; rw [this]; rfl)
theorem bty_ok {y : Str} {k : String} {pos : Pos} (o : OkX Γ n cl call X W d) (e : y = Str.ofString k) (hg : Gl X y) (hm : X.mg y = none) (hk : tyCs.contains k = true) : PE X (.Name y pos) (tC (.ty k)) := by
  subst e
  have hk' : k ∈ tyCs := by simpa using hk
  unfold tyCs at hk'
  simp only [List.mem_cons, List.not_mem_nil, or_false] at hk'
  rcases hk' with rfl | rfl | rfl | rfl | rfl | rfl
  · exact pe_bltn hg hm PyProof.Rows.boot_int rfl
  · exact pe_bltn hg hm PyProof.Rows.boot_bool rfl
  · exact pe_bltn hg hm PyProof.Rows.boot_str rfl
  · exact pe_bltn hg hm PyProof.Rows.boot_tuple rfl
  · exact pe_bltn hg hm PyProof.Rows.boot_list rfl
  · exact pe_bltn hg hm PyProof.Rows.boot_dict rfl
theorem args_nil_read {σ : L2.St} {H : Hp} {Q : List V → Hp → Prop} (h : tA X.K cl W (mArgs []) σ H Q) : tNil σ H Q := by
  obtain ⟨F, cs, ρ, st, z, w, en, hm, o⟩ := h
  cases some_ret hm
  exact o.val w .nil
theorem call_ok {f : Nat} {x : Str} {es : List Expr} {ms : List Sm} {p pos : Pos} (o : OkX Γ n cl call X W d) (hf : Γ.fns[f]? = some x) (hg : glB d.sc x = true) (ha : SndL cl X W ms es) : PE X (.Call (.Name x p) es [] pos) (tE X.K cl W (mCall (call f) (mArgs ms))) := by
  obtain ⟨a, fd, ps, h1, h2, h3, h4, h5⟩ := o.c.fns f x hf
  obtain ⟨g1, g2⟩ := gl_of o hg
  cases ha with
  | nil =>
    refine PE.weak (pe_callW0 h4 o.c.room o.g g1 h1 h2 h3 g2) fun σ H Q h => ?_
    exact args_nil_read (call_read h5 h)
  | cons s pl r =>
    exact PE.weak (pe_callW h4 o.c.room o.g g1 h1 h2 h3 (SndL.cons s pl r).args g2 (star_plain pl _ _) r.plain) fun σ H Q h => call_read h5 h

/-! ### targets -/
theorem asgEach_plain {t : Tg} {x : Expr} (h : chkT d t x = true) (xs : List Expr) (env : Env) : assignEach (x :: xs) env = (false, assign x env) :: assignEach xs env := by
  cases x <;> first | rfl | (cases t <;> (unfold chkT at h; cases h))
mutual
theorem tg_ok (o : OkX Γ n cl call X W d) : ∀ (t : Tg) (x : Expr), chkT d t x = true → PG X x (gD X.K t)
  | .nm i, x, h => by
    cases x <;> try (unfold chkT at h; cases h; done)
    rename_i y pos
    unfold chkT at h
    rw [Bool.and_eq_true] at h
    have h1 := of_decide_eq_true h.1
    obtain ⟨h2, h3⟩ := loc_of o h.2
    exact sg_name o.g.nd (by rw [o.N]; exact h1) h2 h3
  | .tp l, x, h => by
    cases x <;> try (unfold chkT at h; cases h; done)
    rename_i es k pos
    unfold chkT at h
    obtain ⟨h1, h2, h3⟩ := tgs_ok o l es h
    exact sg_tup o.g.calm h1 h2 h3
theorem tgs_ok (o : OkX Γ n cl call X W d) : ∀ (t : List Tg) (x : List Expr), chkTs d t x = true → PGs X x (gDs X.K t) ∧ (assignEach x X.env).length = t.length ∧ (assignEach x X.env).findIdx? (·.1) = none
  | [], x, h => by
    cases x with
    | nil => exact ⟨sgs_nil, rfl, rfl⟩
    | cons _ _ => unfold chkTs at h; cases h
  | t :: ts, x, h => by
    cases x with
    | nil => unfold chkTs at h; cases h
    | cons x xs =>
      unfold chkTs at h
      rw [Bool.and_eq_true] at h
      have p := asgEach_plain h.1 xs X.env
      obtain ⟨h1, h2, h3⟩ := tgs_ok o ts xs h.2
      refine ⟨sgs_cons (tg_ok o t x h.1) h1 (by rw [p]; rfl), by rw [p, List.length_cons, List.length_cons, h2], ?_⟩
      rw [p, List.findIdx?_cons]
      simp [h3]
end
end
end MC

set_option maxHeartbeats 4000000
/-! MC, part 13: what the look says of a text, by term. -/
namespace MC
open PySem PySem.Spec PyProof.Rows L2
variable {Γ : Gm} {d : Dsc}
theorem inv_var {i : Nat} {x : Expr} (h : chk Γ d (.var i) x = true) : ∃ y pos, x = .Name y pos ∧ d.N[i]? = some y ∧ (visB d.sc y = true ∧ ((!(y == ("__debug__" : Str))) = true ∧ (!(y == ("__classdict__" : Str))) = true)) := by
  unfold chk at h
  split at h <;> try contradiction
  rename_i he
  cases he
  try simp only [Bool.and_eq_true, decide_eq_true_eq] at h
  exact ⟨_, _, rfl, h⟩
theorem inv_con {c : Const} {x : Expr} (h : chk Γ d (.con c) x = true) : ∃ j pos, x = .Constant c j pos ∧ (conD c).isSome = true := by
  unfold chk at h
  split at h <;> try contradiction
  rename_i he
  cases he
  try simp only [Bool.and_eq_true, decide_eq_true_eq] at h
  obtain ⟨rfl, h⟩ := h
  exact ⟨_, _, rfl, h⟩
theorem inv_glo {z : Str} {x : Expr} (h : chk Γ d (.glo z) x = true) : ∃ pos, x = .Name z pos ∧ (glB d.sc z = true ∧ (Γ.gl.lookup z).isSome = true) := by
  unfold chk at h
  split at h <;> try contradiction
  rename_i he
  cases he
  try simp only [Bool.and_eq_true, decide_eq_true_eq] at h
  obtain ⟨rfl, h⟩ := h
  exact ⟨_, rfl, h⟩
theorem inv_bty {k : String} {x : Expr} (h : chk Γ d (.bty k) x = true) : ∃ y pos, x = .Name y pos ∧ y = Str.ofString k ∧ (glB d.sc y = true ∧ (Γ.free.contains y = true ∧ tyCs.contains k = true)) := by
  unfold chk at h
  split at h <;> try contradiction
  rename_i he
  cases he
  try simp only [Bool.and_eq_true, decide_eq_true_eq] at h
  exact ⟨_, _, rfl, h⟩
theorem inv_call {f : Nat} {l : List E} {x : Expr} (h : chk Γ d (.call f l) x = true) : ∃ y p es pos, x = .Call (.Name y p) es [] pos ∧ Γ.fns[f]? = some y ∧ (glB d.sc y = true ∧ chks Γ d l es = true) := by
  unfold chk at h
  split at h <;> try contradiction
  rename_i he
  cases he
  try simp only [Bool.and_eq_true, decide_eq_true_eq] at h
  exact ⟨_, _, _, _, rfl, h⟩
theorem inv_prim {p : Prim} {l : List E} {x : Expr} (h : chk Γ d (.prim p l) x = true) : ∃ q e es pos, x = .Call (.Name p.name q) (e :: es) [] pos ∧ (glB d.sc p.name = true ∧ (Γ.free.contains p.name = true ∧ chks Γ d l (e :: es) = true)) := by
  unfold chk at h
  split at h <;> try contradiction
  rename_i he
  cases he
  try simp only [Bool.and_eq_true, decide_eq_true_eq] at h
  obtain ⟨rfl, h⟩ := h
  exact ⟨_, _, _, _, rfl, h⟩
theorem inv_bin {op : Operator} {a b : E} {x : Expr} (h : chk Γ d (.bin op a b) x = true) : ∃ a' b' pos, x = .BinOp a' op b' pos ∧ (chk Γ d a a' = true ∧ chk Γ d b b' = true) := by
  unfold chk at h
  split at h <;> try contradiction
  rename_i he
  cases he
  try simp only [Bool.and_eq_true, decide_eq_true_eq] at h
  obtain ⟨rfl, h⟩ := h
  exact ⟨_, _, _, rfl, h⟩
theorem inv_cmp {op : CmpOp} {a b : E} {x : Expr} (h : chk Γ d (.cmp op a b) x = true) : ∃ a' b' pos, x = .Compare a' [op] [b'] pos ∧ (chk Γ d a a' = true ∧ chk Γ d b b' = true) := by
  unfold chk at h
  split at h <;> try contradiction
  rename_i he
  cases he
  try simp only [Bool.and_eq_true, decide_eq_true_eq] at h
  obtain ⟨rfl, h⟩ := h
  exact ⟨_, _, _, rfl, h⟩
theorem inv_chain {o1 o2 : CmpOp} {a b c : E} {x : Expr} (h : chk Γ d (.chain o1 o2 a b c) x = true) : ∃ a' b' c' pos, x = .Compare a' [o1, o2] [b', c'] pos ∧ (chk Γ d a a' = true ∧ (chk Γ d b b' = true ∧ chk Γ d c c' = true)) := by
  unfold chk at h
  split at h <;> try contradiction
  rename_i he
  cases he
  try simp only [Bool.and_eq_true, decide_eq_true_eq] at h
  obtain ⟨rfl, rfl, h⟩ := h
  exact ⟨_, _, _, _, rfl, h⟩
theorem inv_and {l : List E} {x : Expr} (h : chk Γ d (.and l) x = true) : ∃ es pos, x = .BoolOp .And es pos ∧ (!l.isEmpty) = true ∧ chks Γ d l es = true := by
  unfold chk at h
  split at h <;> try contradiction
  rename_i he
  cases he
  try simp only [Bool.and_eq_true, decide_eq_true_eq] at h
  exact ⟨_, _, rfl, h⟩
theorem inv_or {l : List E} {x : Expr} (h : chk Γ d (.or l) x = true) : ∃ es pos, x = .BoolOp .Or es pos ∧ (!l.isEmpty) = true ∧ chks Γ d l es = true := by
  unfold chk at h
  split at h <;> try contradiction
  rename_i he
  cases he
  try simp only [Bool.and_eq_true, decide_eq_true_eq] at h
  exact ⟨_, _, rfl, h⟩
theorem inv_not {a : E} {x : Expr} (h : chk Γ d (.not a) x = true) : ∃ a' pos, x = .UnaryOp .Not a' pos ∧ chk Γ d a a' = true := by
  unfold chk at h
  split at h <;> try contradiction
  rename_i he
  cases he
  try simp only [Bool.and_eq_true, decide_eq_true_eq] at h
  exact ⟨_, _, rfl, h⟩
theorem inv_neg {a : E} {x : Expr} (h : chk Γ d (.neg a) x = true) : ∃ a' pos, x = .UnaryOp .USub a' pos ∧ chk Γ d a a' = true := by
  unfold chk at h
  split at h <;> try contradiction
  rename_i he
  cases he
  try simp only [Bool.and_eq_true, decide_eq_true_eq] at h
  exact ⟨_, _, rfl, h⟩
theorem inv_ife {a b c : E} {x : Expr} (h : chk Γ d (.ife c a b) x = true) : ∃ c' a' b' pos, x = .IfExp c' a' b' pos ∧ chk Γ d c c' = true ∧ (chk Γ d a a' = true ∧ chk Γ d b b' = true) := by
  unfold chk at h
  split at h <;> try contradiction
  rename_i he
  cases he
  try simp only [Bool.and_eq_true, decide_eq_true_eq] at h
  exact ⟨_, _, _, _, rfl, h⟩
theorem inv_tup {l : List E} {x : Expr} (h : chk Γ d (.tup l) x = true) : ∃ es k pos, x = .Tuple es k pos ∧ chks Γ d l es = true := by
  unfold chk at h
  split at h <;> try contradiction
  rename_i he
  cases he
  try simp only [Bool.and_eq_true, decide_eq_true_eq] at h
  exact ⟨_, _, _, rfl, h⟩
theorem inv_lst {l : List E} {x : Expr} (h : chk Γ d (.lst l) x = true) : ∃ es pos, x = .List es pos ∧ chks Γ d l es = true := by
  unfold chk at h
  split at h <;> try contradiction
  rename_i he
  cases he
  try simp only [Bool.and_eq_true, decide_eq_true_eq] at h
  exact ⟨_, _, rfl, h⟩
theorem inv_lstC {l : List E} {x : Expr} (h : chk Γ d (.lstC l) x = true) : ∃ es pos, x = .List es pos ∧ chks Γ d l es = true := by
  unfold chk at h
  split at h <;> try contradiction
  rename_i he
  cases he
  try simp only [Bool.and_eq_true, decide_eq_true_eq] at h
  exact ⟨_, _, rfl, h⟩
theorem inv_ix {a b : E} {x : Expr} (h : chk Γ d (.ix a b) x = true) : ∃ a' b' pos, x = .Subscript a' b' pos ∧ (chk Γ d a a' = true ∧ chk Γ d b b' = true) := by
  unfold chk at h
  split at h <;> try contradiction
  rename_i he
  cases he
  try simp only [Bool.and_eq_true, decide_eq_true_eq] at h
  exact ⟨_, _, _, rfl, h⟩
theorem inv_sl {a lo hi : E} {x : Expr} (h : chk Γ d (.sl a lo hi) x = true) : ∃ a' l' h' p pos, x = .Subscript a' (.Slice (some l') (some h') none p) pos ∧ (chk Γ d a a' = true ∧ (chk Γ d lo l' = true ∧ chk Γ d hi h' = true)) := by
  unfold chk at h
  split at h <;> try contradiction
  rename_i he
  cases he
  try simp only [Bool.and_eq_true, decide_eq_true_eq] at h
  exact ⟨_, _, _, _, _, rfl, h⟩
theorem inv_slF {a lo : E} {x : Expr} (h : chk Γ d (.slF a lo) x = true) : ∃ a' l' p pos, x = .Subscript a' (.Slice (some l') none none p) pos ∧ (chk Γ d a a' = true ∧ chk Γ d lo l' = true) := by
  unfold chk at h
  split at h <;> try contradiction
  rename_i he
  cases he
  try simp only [Bool.and_eq_true, decide_eq_true_eq] at h
  exact ⟨_, _, _, _, rfl, h⟩
theorem inv_slT {a hi : E} {x : Expr} (h : chk Γ d (.slT a hi) x = true) : ∃ a' l' p pos, x = .Subscript a' (.Slice none (some l') none p) pos ∧ (chk Γ d a a' = true ∧ chk Γ d hi l' = true) := by
  unfold chk at h
  split at h <;> try contradiction
  rename_i he
  cases he
  try simp only [Bool.and_eq_true, decide_eq_true_eq] at h
  exact ⟨_, _, _, _, rfl, h⟩
theorem inv_slA {a : E} {x : Expr} (h : chk Γ d (.slA a) x = true) : ∃ a' p pos, x = .Subscript a' (.Slice none none none p) pos ∧ chk Γ d a a' = true := by
  unfold chk at h
  split at h <;> try contradiction
  rename_i he
  cases he
  try simp only [Bool.and_eq_true, decide_eq_true_eq] at h
  exact ⟨_, _, _, rfl, h⟩
theorem inv_rev {a : E} {x : Expr} (h : chk Γ d (.rev a) x = true) : ∃ a' j p1 p2 p pos, x = .Subscript a' (.Slice none none (some (.UnaryOp .USub (.Constant (.int 1) j p1) p2)) p) pos ∧ chk Γ d a a' = true := by
  unfold chk at h
  split at h <;> try contradiction
  rename_i he
  cases he
  try simp only [Bool.and_eq_true, decide_eq_true_eq] at h
  obtain ⟨rfl, h⟩ := h
  exact ⟨_, _, _, _, _, _, rfl, h⟩
theorem inv_dic0  {x : Expr} (h : chk Γ d (.dic0) x = true) : ∃ pos, x = .Dict [] [] pos ∧ True := by
  unfold chk at h
  split at h <;> try contradiction
  exact ⟨_, rfl, trivial⟩
theorem inv_dic1 {k : Key} {c : Const} {x : Expr} (h : chk Γ d (.dic1 k c) x = true) : ∃ j p j2 p2 pos, x = .Dict [some (.Constant (keyC k) j p)] [.Constant c j2 p2] pos ∧ (conD c).isSome = true := by
  unfold chk at h
  split at h <;> try contradiction
  rename_i he
  cases he
  try simp only [Bool.and_eq_true, decide_eq_true_eq] at h
  obtain ⟨rfl, rfl, h⟩ := h
  exact ⟨_, _, _, _, _, rfl, h⟩
theorem inv_rng1 {a : E} {x : Expr} (h : chk Γ d (.rng1 a) x = true) : ∃ p a' pos, x = .Call (.Name "range" p) [a'] [] pos ∧ (glB d.sc "range" = true ∧ (Γ.free.contains "range" = true ∧ chk Γ d a a' = true)) := by
  unfold chk at h
  split at h <;> try contradiction
  rename_i he
  cases he
  try simp only [Bool.and_eq_true, decide_eq_true_eq] at h
  obtain ⟨rfl, h⟩ := h
  exact ⟨_, _, _, rfl, h⟩
theorem inv_rng2 {a b : E} {x : Expr} (h : chk Γ d (.rng2 a b) x = true) : ∃ p a' b' pos, x = .Call (.Name "range" p) [a', b'] [] pos ∧ (glB d.sc "range" = true ∧ (Γ.free.contains "range" = true ∧ (chk Γ d a a' = true ∧ chk Γ d b b' = true))) := by
  unfold chk at h
  split at h <;> try contradiction
  rename_i he
  cases he
  try simp only [Bool.and_eq_true, decide_eq_true_eq] at h
  obtain ⟨rfl, h⟩ := h
  exact ⟨_, _, _, _, rfl, h⟩
theorem inv_comp {t : Tg} {own : List (Str × Nat)} {a b : E} {x : Expr} (h : chk Γ d (.comp t own a b) x = true) : ∃ tg it e scope pos, x = .ListComp e [⟨tg, it, [], 0⟩] scope pos ∧ chk Γ d a it = true ∧ (chkT (blkD d scope) t tg = true ∧ (chk Γ (blkD d scope) b e = true ∧ (blkC d.N d.sc scope own = true ∧ slotsIn t own = true))) := by
  unfold chk at h
  split at h <;> try contradiction
  rename_i he
  cases he
  try simp only [Bool.and_eq_true, decide_eq_true_eq] at h
  exact ⟨_, _, _, _, _, rfl, h⟩
theorem inv_compIf {t : Tg} {own : List (Str × Nat)} {a c b : E} {x : Expr} (h : chk Γ d (.compIf t own a c b) x = true) : ∃ tg it c' e scope pos, x = .ListComp e [⟨tg, it, [c'], 0⟩] scope pos ∧ chk Γ d a it = true ∧ (chkT (blkD d scope) t tg = true ∧ (chk Γ (blkD d scope) c c' = true ∧ (chk Γ (blkD d scope) b e = true ∧ (blkC d.N d.sc scope own = true ∧ slotsIn t own = true)))) := by
  unfold chk at h
  split at h <;> try contradiction
  rename_i he
  cases he
  try simp only [Bool.and_eq_true, decide_eq_true_eq] at h
  exact ⟨_, _, _, _, _, _, rfl, h⟩
end MC

set_option maxHeartbeats 4000000
/-! MC, part 14: soundness of the look at expressions: the terms. -/
namespace MC
open PySem PySem.Spec PyProof.Rows L2

variable {Γ : Gm} {n : Nat} {cl : Nat → Addr} {call : Nat → List D → M D}
theorem and2 {a b : Bool} (h : (a && b) = true) : a = true ∧ b = true := by rwa [Bool.and_eq_true] at h
theorem free_of {X : Cx} {W : WX} {d : Dsc} {x : Str} (o : OkX Γ n cl call X W d) (h : Γ.free.contains x = true) : X.mg x = none := o.c.free x (by simpa using h)
theorem slots_of {t : Tg} {own : List (Str × Nat)} (h : slotsIn t own = true) : ∀ i ∈ t.slots, i ∈ own.map (·.2) := by
  unfold slotsIn at h
  rw [List.all_eq_true] at h
  intro i hi
  have := h i hi
  simpa using this
theorem blk_ok {X : Cx} {W : WX} {d : Dsc} {scope : Scope} {own : List (Str × Nat)} (o : OkX Γ n cl call X W d) (h : blkC d.N d.sc scope own = true) : BlkOk X.N X.env.scope scope own := by
  rw [o.N, o.sc]
  exact blkOk_by h
theorem evs_nil : evs call Γ.gl [] = [] := by unfold evs; rfl
theorem evs_cons {e : E} {l : List E} : evs call Γ.gl (e :: l) = ev call Γ.gl e :: evs call Γ.gl l := by conv => lhs; unfold evs
theorem evs_ne {l : List E} (h : (!l.isEmpty) = true) : evs call Γ.gl l ≠ [] := by
  cases l with
  | nil => cases h
  | cons a l => rw [evs_cons]; simp
mutual
theorem snd : ∀ (e : E) (x : Expr) {X : Cx} {W : WX} {d : Dsc}, OkX Γ n cl call X W d → chk Γ d e x = true → Snd cl X W (ev call Γ.gl e) x
  | .var i, x, X, W, d, o, h => by
    obtain ⟨y, pos, rfl, h1, h2, h3, h4⟩ := inv_var h
    unfold ev
    exact Snd.of (se_var (by rw [o.N]; exact h1) (by rw [o.sc]; exact vis_of h2) (ne_str h3) (ne_str h4)) fun _ => rfl
  | .con c, x, X, W, d, o, h => by
    obtain ⟨j, pos, rfl, h1⟩ := inv_con h
    unfold ev
    cases q : conD c with
    | none => rw [q] at h1; cases h1
    | some dd =>
      obtain ⟨v, h1, h2⟩ := con_ok (X := X) (j := j) (pos := pos) q
      exact Snd.of (se_tc (d := dd) h1 h2) fun _ => rfl
  | .glo z, x, X, W, d, o, h => by
    obtain ⟨pos, rfl, h1, h2⟩ := inv_glo h
    obtain ⟨g1, g2⟩ := gl_of o h1
    unfold ev
    cases q : Γ.gl.lookup z with
    | none => rw [q] at h2; cases h2
    | some dd =>
      obtain ⟨u, v, k1, k2, k3⟩ := o.c.gl z dd q
      exact Snd.of (se_tc (d := dd) (pe_glob g1 k1 k2 g2) k3) fun _ => rfl
  | .bty k, x, X, W, d, o, h => by
    obtain ⟨y, pos, rfl, h1, h2, h3, h4⟩ := inv_bty h
    unfold ev
    exact Snd.of (se_tc (d := .ty k) (bty_ok o h1 (gl_of o h2).1 (free_of o h3) h4) fun _ _ => .ty k) fun _ => rfl
  | .call f l, x, X, W, d, o, h => by
    obtain ⟨y, p, es, pos, rfl, h1, h2, h3⟩ := inv_call h
    unfold ev
    exact Snd.of (call_ok o h1 h2 (snds l es o h3)) fun _ => rfl
  | .prim p l, x, X, W, d, o, h => by
    obtain ⟨q, e, es, pos, rfl, h1, h2, h3⟩ := inv_prim h
    have r := snds l (e :: es) o h3
    unfold ev
    generalize evs call Γ.gl l = ms at r
    cases r with
    | cons s pl r => exact Snd.of (se_prim o.g o.c.km p (gl_of o h1).1 (free_of o h2) (SndL.cons s pl r).args (star_plain pl _ _) r.plain) fun _ => rfl
  | .bin op a b, x, X, W, d, o, h => by
    obtain ⟨a', b', pos, rfl, h1, h2⟩ := inv_bin h
    unfold ev
    exact Snd.of (se_bin (snd a a' o h1).v (snd b b' o h2).v) fun _ => rfl
  | .cmp op a b, x, X, W, d, o, h => by
    obtain ⟨a', b', pos, rfl, h1, h2⟩ := inv_cmp h
    unfold ev
    have m := marks_plain (chk_plain h2) op
    exact Snd.bl (se_cmp o.g (snd a a' o h1).v (snd b b' o h2).v m) (st_cmp o.g (snd a a' o h1).v (snd b b' o h2).v m)
  | .chain o1 o2 a b c, x, X, W, d, o, h => by
    obtain ⟨a', b', c', pos, rfl, h1, h2, h3⟩ := inv_chain h
    unfold ev
    have m : lastMarks [o1, o2] [b', c'] = false := marks_plain (chk_plain h3) o2
    exact Snd.bl (se_chain o.g (snd a a' o h1).v (snd b b' o h2).v (snd c c' o h3).v m) (st_chain o.g (snd a a' o h1).v (snd b b' o h2).v (snd c c' o h3).v m)
  | .and l, x, X, W, d, o, h => by
    obtain ⟨es, pos, rfl, h1, h2⟩ := inv_and h
    unfold ev
    have r := (snds l es o h2).ands (pos := pos) (evs_ne h1)
    exact ⟨r.1, r.2.pt, fun _ => pi_false⟩
  | .or l, x, X, W, d, o, h => by
    obtain ⟨es, pos, rfl, h1, h2⟩ := inv_or h
    unfold ev
    have r := (snds l es o h2).ors (pos := pos) (evs_ne h1)
    exact ⟨r.1, r.2.pt, fun _ => pi_false⟩
  | .not a, x, X, W, d, o, h => by
    obtain ⟨a', pos, rfl, h1⟩ := inv_not h
    unfold ev
    exact ⟨se_not (snd a a' o h1).v, st_not (snd a a' o h1).t, fun _ => pi_false⟩
  | .neg a, x, X, W, d, o, h => by
    obtain ⟨a', pos, rfl, h1⟩ := inv_neg h
    unfold ev
    exact Snd.of (se_neg (snd a a' o h1).v) fun _ => rfl
  | .ife c a b, x, X, W, d, o, h => by
    obtain ⟨c', a', b', pos, rfl, h1, h2, h3⟩ := inv_ife h
    unfold ev
    have r := se_if (pos := pos) (snd c c' o h1).t (snd a a' o h2).v (snd b b' o h3).v
    exact ⟨r, pt_false, fun _ => si_seq r⟩
  | .tup l, x, X, W, d, o, h => by
    obtain ⟨es, k, pos, rfl, h1⟩ := inv_tup h
    unfold ev
    exact Snd.of (se_tup (snds l es o h1).args) fun _ => rfl
  | .lst l, x, X, W, d, o, h => by
    obtain ⟨es, pos, rfl, h1⟩ := inv_lst h
    unfold ev
    exact Snd.of (se_lst (snds l es o h1).args) fun _ => rfl
  | .lstC l, x, X, W, d, o, h => by
    obtain ⟨es, pos, rfl, h1⟩ := inv_lstC h
    unfold ev
    exact Snd.of (se_lstC (snds l es o h1).args) fun _ => rfl
  | .ix a b, x, X, W, d, o, h => by
    obtain ⟨a', b', pos, rfl, h1, h2⟩ := inv_ix h
    unfold ev
    exact Snd.of (se_ix (snd a a' o h1).v (snd b b' o h2).v (index_plain (chk_plain h2))) fun _ => rfl
  | .sl a lo hi, x, X, W, d, o, h => by
    obtain ⟨a', l', h', p, pos, rfl, h1, h2, h3⟩ := inv_sl h
    unfold ev
    exact Snd.of (se_slice (snd a a' o h1).v (so_some (snd lo l' o h2).v) (so_some (snd hi h' o h3).v)) fun _ => rfl
  | .slF a lo, x, X, W, d, o, h => by
    obtain ⟨a', l', p, pos, rfl, h1, h2⟩ := inv_slF h
    unfold ev
    exact Snd.of (se_slice (snd a a' o h1).v (so_some (snd lo l' o h2).v) so_none) fun _ => rfl
  | .slT a hi, x, X, W, d, o, h => by
    obtain ⟨a', l', p, pos, rfl, h1, h2⟩ := inv_slT h
    unfold ev
    exact Snd.of (se_slice (snd a a' o h1).v so_none (so_some (snd hi l' o h2).v)) fun _ => rfl
  | .slA a, x, X, W, d, o, h => by
    obtain ⟨a', p, pos, rfl, h1⟩ := inv_slA h
    unfold ev
    exact Snd.of (se_slice (snd a a' o h1).v so_none so_none) fun _ => rfl
  | .rev a, x, X, W, d, o, h => by
    obtain ⟨a', j, p1, p2, p, pos, rfl, h1⟩ := inv_rev h
    unfold ev
    exact Snd.of (se_rev (snd a a' o h1).v) fun _ => rfl
  | .dic0, x, X, W, d, o, h => by
    obtain ⟨pos, rfl, h1⟩ := inv_dic0 h
    unfold ev
    exact Snd.of se_dic0 fun _ => rfl
  | .dic1 k c, x, X, W, d, o, h => by
    obtain ⟨j, p, j2, p2, pos, rfl, h1⟩ := inv_dic1 h
    unfold ev
    cases q : conD c with
    | none => rw [q] at h1; cases h1
    | some dd =>
      obtain ⟨v, k1, k2⟩ := con_ok (X := X) (j := j2) (pos := p2) q
      have hk : PE X (.Constant (keyC k) j p) (tC (kV k)) := by
        cases k with
        | inl i => exact pe_int
        | inr y => exact pe_str
      exact Snd.of (se_dic1 hk k1 k2) fun _ => rfl
  | .rng1 a, x, X, W, d, o, h => by
    obtain ⟨p, a', pos, rfl, h1, h2, h3⟩ := inv_rng1 h
    unfold ev
    exact Snd.it fun tg => si_range1 (gl_of o h1).1 (free_of o h2) (sa_cons (snd a a' o h3).v sa_nil (star_plain (chk_plain h3) _ _)) (star_plain (chk_plain h3) _ _)
  | .rng2 a b, x, X, W, d, o, h => by
    obtain ⟨p, a', b', pos, rfl, h1, h2, h3, h4⟩ := inv_rng2 h
    unfold ev
    have p1 := star_plain (chk_plain h4) [] X.env
    have p2 := star_plain (chk_plain h3) [b'] X.env
    exact Snd.it fun tg => si_range2 (gl_of o h1).1 (free_of o h2) (sa_cons (snd a a' o h3).v (sa_cons (snd b b' o h4).v sa_nil p1) p2) (by rw [p2, p1]; rfl) p1
  | .comp t own it e, x, X, W, d, o, h => by
    obtain ⟨tg, it', e', scope, pos, rfl, h1, h2, h3, h4, h5⟩ := inv_comp h
    unfold ev
    exact Snd.of (se_comp o.g ((snd it it' o h1).i tg) (blk_ok o h4) (fun s H C c fp => tg_ok (o.blk s H scope C c fp) t tg h2) (fun s H C c fp => sts_nil) (fun s H C c fp => (snd e e' (o.blk s H scope C c fp) h3).v) (fun _ => folded_plain (chk_plain h1) _ _) (slots_of h5)) fun _ => rfl
  | .compIf t own it c e, x, X, W, d, o, h => by
    obtain ⟨tg, it', c', e', scope, pos, rfl, h1, h2, h3, h4, h5, h6⟩ := inv_compIf h
    unfold ev
    exact Snd.of (se_comp o.g ((snd it it' o h1).i tg) (blk_ok o h5) (fun s H C c fp => tg_ok (o.blk s H scope C c fp) t tg h2) (fun s H C cc fp => sts_one (snd c c' (o.blk s H scope C cc fp) h3).t) (fun s H C cc fp => (snd e e' (o.blk s H scope C cc fp) h4).v) (fun _ => folded_plain (chk_plain h1) _ _) (slots_of h6)) fun _ => rfl
theorem snds : ∀ (l : List E) (xs : List Expr) {X : Cx} {W : WX} {d : Dsc}, OkX Γ n cl call X W d → chks Γ d l xs = true → SndL cl X W (evs call Γ.gl l) xs
  | [], xs, X, W, d, o, h => by
    cases xs with
    | nil => unfold evs; exact .nil
    | cons _ _ => unfold chks at h; cases h
  | e :: l, xs, X, W, d, o, h => by
    cases xs with
    | nil => unfold chks at h; cases h
    | cons x xs =>
      unfold chks at h
      obtain ⟨h1, h2⟩ := and2 h
      unfold evs
      exact .cons (snd e x o h1) (chk_plain h1) (snds l xs o h2)
end
end MC

set_option maxHeartbeats 4000000
/-! MC, part 15: the look at statements; soundness. -/
namespace MC
open PySem PySem.Spec PyProof.Rows L2

/-! ### a thing of the store stays as it is from now on -/
section
variable {K : PySem.W.Frag} {F : Hp} {cs : CS} {st : Sto} {H : Hp} {ρ : Rho} {σ : L2.St}
theorem Wd.frz (w : Wd K F cs st H) {n : Nat} {a : Addr} {c : C} {o : HO} (h1 : st[n]? = some c) (h2 : cs.l[n]? = some a) (l : c.live = true) (ho : H a = some o) : Ext F (upd F a o) cs cs ∧ Wd K (upd F a o) cs (st.set n .dead) H := by
  obtain ⟨k, f⟩ := w.ok n c a h1 h2 l
  have e : Ext F (upd F a o) cs cs := ⟨fun b u h => by rw [upd_ne (ne_of_none h f)]; exact h, fun _ _ h => h, rfl⟩
  have hn : n < st.length := (List.getElem?_eq_some_iff.mp h1).1
  have old : ∀ (m : Nat) (e : C), (st.set n .dead)[m]? = some e → e.live = true → m ≠ n ∧ st[m]? = some e := fun m e g le => by
    by_cases hm : n = m
    · subst hm
      rw [List.getElem?_set_self hn] at g
      cases g
      cases le
    · rw [List.getElem?_set_ne hm] at g
      exact ⟨fun z => hm z.symm, g⟩
  refine ⟨e, ⟨fun b u h => ?_, by rw [List.length_set]; exact w.len, fun m e' b g1 g2 le => ?_, fun m m' e1 e2 b g1 g2 g3 g4 le le' => ?_, fun q hq => ?_, fun m e' b q g1 g2 le hq => ?_, w.gnd⟩⟩
  · by_cases hb : b = a
    · subst hb
      rw [upd_same] at h
      cases h
      exact ho
    · rw [upd_ne hb] at h
      exact w.sub b u h
  · obtain ⟨k1, k2⟩ := old m e' g1 le
    obtain ⟨k', f'⟩ := w.ok m e' b k2 g2 le
    have hb : b ≠ a := fun z => k1 (w.inj m n e' c b k2 h1 g2 (z ▸ h2) le l)
    rw [upd_ne hb]
    exact ⟨k'.mono e, f'⟩
  · exact w.inj m m' e1 e2 b (old m e1 g1 le).2 (old m' e2 g2 le').2 g3 g4 le le'
  · have hb : q.1 ≠ a := fun z => w.gne n c a q h1 h2 l hq z.symm
    rw [upd_ne hb]
    exact w.gok q hq
  · exact w.gne m e' b q (old m e' g1 le).2 g2 le hq
theorem EnvR.as (h : EnvR K F cs ρ σ) {i : Nat} {d : D} {v : V} (hi : σ[i]? = some (some v)) (r : Rp K F cs d v) : EnvR K F cs (ρ.set i (some d)) σ := by
  refine ⟨by rw [List.length_set]; exact h.len, fun j e he => ?_⟩
  by_cases hj : i = j
  · subst hj
    have hl : i < ρ.length := by
      have := (List.getElem?_eq_some_iff.mp he).1
      rw [List.length_set] at this
      exact this
    rw [List.getElem?_set_self hl] at he
    cases he
    exact ⟨v, hi, r⟩
  · rw [List.getElem?_set_ne hj] at he
    exact h.get j e he
end
theorem frz_read {K : PySem.W.Frag} {cl : Nat → Addr} {W : WX} {i : Nat} {b : MS} {D : Ends} {σ : L2.St} {H : Hp} (h : tS K cl W (mSeq (mFrz i) b) D σ H) : tS K cl W b D σ H := by
  obtain ⟨F, cs, ρ, st, r, w, en, hm, o⟩ := h
  unfold mSeq mFrz at hm
  cases q : ρ[i]?.join with
  | none => rw [q] at hm; cases hm
  | some d =>
    rw [q] at hm
    have q' : ρ[i]? = some (some d) := by
      cases e : ρ[i]? with
      | none => rw [e] at q; cases q
      | some x => rw [e] at q; cases x with
        | none => cases q
        | some y => cases q; rfl
    cases d with
    | cell n =>
      obtain ⟨v, hv, rv⟩ := en.get i _ q'
      cases rv with
      | @cell a _ hc =>
        simp only at hm
        cases q2 : st[n]? with
        | none => rw [q2] at hm; cases hm
        | some c =>
          rw [q2] at hm
          cases c with
          | dead => cases hm
          | lst l =>
            obtain ⟨⟨vs, hu, ru⟩, hF⟩ := w.ok n _ _ q2 hc rfl
            obtain ⟨e1, w1⟩ := w.frz q2 hc rfl hu
            exact ⟨_, cs, _, _, r, w1, (en.mono e1).as hv (.lst upd_same (ru.mono e1)), hm, o.mono e1⟩
          | dic ks vs =>
            obtain ⟨⟨ws, hu, hk, ru⟩, hF⟩ := w.ok n _ _ q2 hc rfl
            obtain ⟨e1, w1⟩ := w.frz q2 hc rfl hu
            exact ⟨_, cs, _, _, r, w1, (en.mono e1).as hv (.dic upd_same hk (ru.mono e1)), hm, o.mono e1⟩
    | _ => cases hm

/-! ### the look -/
def isCompX : Expr → Bool
  | .ListComp .. => true
  | .SetComp .. => true
  | .DictComp .. => true
  | _ => false
def isTupX : Expr → Bool
  | .Tuple .. => true
  | _ => false
def isNmX : Expr → Bool
  | .Name .. => true
  | _ => false
/-- no swap at a comprehension's store: the name is a cell -/
def cellNm (d : Dsc) : Expr → Bool
  | .Name y _ => decide (d.sc.names.lookup y = some .cell)
  | _ => false
def swapC (d : Dsc) (y : Str) (p : Pos) (l : Nat) : Expr → Bool
  | .ListComp _ _ sc pos => decide (d.sc.names.lookup y = some .local) && (p.line == pos.line && !(sc.names.any fun (n, k) => n == y && (k == .local || k == .cell)))
  | _ => false
mutual
def chkS (Γ : Gm) (d : Dsc) : S → Stmt → Bool
  | .asg t e, .Assign [tg] e' _ => chk Γ d e e' && (chkT d t tg && ((!isCompX e' || cellNm d tg) && (!isTupX e' || isNmX tg)))
  | .asgC i e, .Assign [.Name y p] e' pos => chk Γ d e e' && (decide (d.N[i]? = some y) && swapC d y p pos.line e')
  | .par i j l, .Assign [.Tuple [.Name x px, .Name y py] _ _] (.Tuple [a, b] _ _) _ => chks Γ d l [a, b] && (decide (d.N[i]? = some x) && (decide (d.N[j]? = some y) && (!decide (i = j) && (decide (d.sc.names.lookup x = some .local) && (decide (d.sc.names.lookup y = some .local) &&
      (py.line == px.line && (!decide (x = y) && (!([a, b].all (foldedForSure 8)) && !([a, b].all (constantsAlone 8))))))))))
  | .setIx o i e, .Assign [.Subscript o' i' _] e' _ => chk Γ d o o' && (chk Γ d i i' && chk Γ d e e')
  | .ret e, .Return (some e') _ => chk Γ d e e'
  | .retN, .Return none _ => true
  | .expr e, .Expr e' _ => chk Γ d e e' && !isCompX e'
  | .ife c a b, .If c' a' b' _ => chk Γ d c c' && (chkSs Γ d a a' && chkSs Γ d b b')
  | .for t it b, .For tg it' b' [] _ => chk Γ d it it' && (chkT d t tg && chkSs Γ d b b')
  | .pass, .Pass _ => true
  | .brk, .Break _ => true
  | .cont, .Continue _ => true
  | _, _ => false
def chkSs (Γ : Gm) (d : Dsc) : List S → List Stmt → Bool
  | [], [] => true
  | .frz _ :: l, xs => chkSs Γ d l xs
  | s :: l, x :: xs => chkS Γ d s x && chkSs Γ d l xs
  | _, _ => false
end
section
variable {Γ : Gm} {d : Dsc}
theorem invS_asg {t : Tg} {e : E} {x : Stmt} (h : chkS Γ d (.asg t e) x = true) : ∃ tg e' pos, x = .Assign [tg] e' pos ∧ chk Γ d e e' = true ∧ chkT d t tg = true ∧ (!isCompX e' || cellNm d tg) = true ∧ (!isTupX e' || isNmX tg) = true := by
  unfold chkS at h
  split at h <;> try contradiction
  rename_i he
  cases he
  rw [Bool.and_eq_true, Bool.and_eq_true, Bool.and_eq_true] at h
  exact ⟨_, _, _, rfl, h.1, h.2.1, h.2.2.1, h.2.2.2⟩
theorem invS_asgC {i : Nat} {e : E} {x : Stmt} (h : chkS Γ d (.asgC i e) x = true) : ∃ y p e' pos, x = .Assign [.Name y p] e' pos ∧ chk Γ d e e' = true ∧ d.N[i]? = some y ∧ swapC d y p pos.line e' = true := by
  unfold chkS at h
  split at h <;> try contradiction
  rename_i he
  cases he
  rw [Bool.and_eq_true, Bool.and_eq_true] at h
  exact ⟨_, _, _, _, rfl, h.1, of_decide_eq_true h.2.1, h.2.2⟩
theorem invS_par {i j : Nat} {l : List E} {s : Stmt} (h : chkS Γ d (.par i j l) s = true) : ∃ x px y py k p a b k2 p2 pos, s = .Assign [.Tuple [.Name x px, .Name y py] k p] (.Tuple [a, b] k2 p2) pos ∧ chks Γ d l [a, b] = true ∧ d.N[i]? = some x ∧ d.N[j]? = some y ∧ i ≠ j ∧ d.sc.names.lookup x = some .local ∧ d.sc.names.lookup y = some .local ∧
    (py.line == px.line) = true ∧ x ≠ y ∧ [a, b].all (foldedForSure 8) = false ∧ [a, b].all (constantsAlone 8) = false := by
  unfold chkS at h
  split at h <;> try contradiction
  rename_i he
  cases he
  simp only [Bool.and_eq_true, decide_eq_true_eq, Bool.not_eq_true', decide_eq_false_iff_not] at h
  obtain ⟨h1, h2, h3, h4, h5, h6, h7, h8, h9, h10⟩ := h
  exact ⟨_, _, _, _, _, _, _, _, _, _, _, rfl, h1, h2, h3, h4, h5, h6, h7, h8, h9, h10⟩
theorem invS_setIx {o i e : E} {x : Stmt} (h : chkS Γ d (.setIx o i e) x = true) : ∃ o' i' p e' pos, x = .Assign [.Subscript o' i' p] e' pos ∧ chk Γ d o o' = true ∧ chk Γ d i i' = true ∧ chk Γ d e e' = true := by
  unfold chkS at h
  split at h <;> try contradiction
  rename_i he
  cases he
  rw [Bool.and_eq_true, Bool.and_eq_true] at h
  exact ⟨_, _, _, _, _, rfl, h.1, h.2.1, h.2.2⟩
theorem invS_ret {e : E} {x : Stmt} (h : chkS Γ d (.ret e) x = true) : ∃ e' pos, x = .Return (some e') pos ∧ chk Γ d e e' = true := by
  unfold chkS at h
  split at h <;> try contradiction
  rename_i he
  cases he
  exact ⟨_, _, rfl, h⟩
theorem invS_retN {x : Stmt} (h : chkS Γ d .retN x = true) : ∃ pos, x = .Return none pos := by
  unfold chkS at h
  split at h <;> try contradiction
  exact ⟨_, rfl⟩
theorem invS_expr {e : E} {x : Stmt} (h : chkS Γ d (.expr e) x = true) : ∃ e' pos, x = .Expr e' pos ∧ chk Γ d e e' = true ∧ isCompX e' = false := by
  unfold chkS at h
  split at h <;> try contradiction
  rename_i he
  cases he
  rw [Bool.and_eq_true] at h
  exact ⟨_, _, rfl, h.1, by simpa using h.2⟩
theorem invS_ife {c : E} {a b : List S} {x : Stmt} (h : chkS Γ d (.ife c a b) x = true) : ∃ c' a' b' pos, x = .If c' a' b' pos ∧ chk Γ d c c' = true ∧ chkSs Γ d a a' = true ∧ chkSs Γ d b b' = true := by
  unfold chkS at h
  split at h <;> try contradiction
  rename_i he
  cases he
  rw [Bool.and_eq_true, Bool.and_eq_true] at h
  exact ⟨_, _, _, _, rfl, h.1, h.2.1, h.2.2⟩
theorem invS_for {t : Tg} {it : E} {b : List S} {x : Stmt} (h : chkS Γ d (.for t it b) x = true) : ∃ tg it' b' pos, x = .For tg it' b' [] pos ∧ chk Γ d it it' = true ∧ chkT d t tg = true ∧ chkSs Γ d b b' = true := by
  unfold chkS at h
  split at h <;> try contradiction
  rename_i he
  cases he
  rw [Bool.and_eq_true, Bool.and_eq_true] at h
  exact ⟨_, _, _, _, rfl, h.1, h.2.1, h.2.2⟩
theorem invS_pass {x : Stmt} (h : chkS Γ d .pass x = true) : ∃ pos, x = .Pass pos := by
  unfold chkS at h
  split at h <;> try contradiction
  exact ⟨_, rfl⟩
theorem invS_brk {x : Stmt} (h : chkS Γ d .brk x = true) : ∃ pos, x = .Break pos := by
  unfold chkS at h
  split at h <;> try contradiction
  exact ⟨_, rfl⟩
theorem invS_cont {x : Stmt} (h : chkS Γ d .cont x = true) : ∃ pos, x = .Continue pos := by
  unfold chkS at h
  split at h <;> try contradiction
  exact ⟨_, rfl⟩
end

/-! ### swaps -/
theorem sw_none {e : Expr} {t : Option Expr} {l : Nat} {env : Env} (h : isCompX e = false) : swapsWith e t l env = pure false := by
  cases e <;> first | rfl | cases h
theorem sw_cell {y : Str} {p : Pos} {e : Expr} {l : Nat} {env : Env} (h : env.kindOf y = some .cell) (hc : isCompX e = false ∨ ∃ a b c q, e = .ListComp a b c q) : swapsWith e (some (.Name y p)) l env = pure false := by
  rcases hc with h1 | ⟨a, b, c, q, rfl⟩
  · exact sw_none h1
  · show (pure (env.blockKind == .function && env.kindOf y == some .local && p.line == q.line && !(c.names.any fun (n, k) => n == y && (k == .local || k == .cell))) : Sem Bool) = pure false
    rw [h]
    have e : ((some NameKind.cell : Option NameKind) == some .local) = false := by decide
    rw [e, Bool.and_false]
    rfl
theorem sw_local {y : Str} {p : Pos} {a : Expr} {b : List Comprehension} {c : Scope} {q : Pos} {l : Nat} {env : Env} (hb : env.blockKind = .function) (h : env.kindOf y = some .local) (h1 : (p.line == q.line) = true) (h2 : (!(c.names.any fun (n, k) => n == y && (k == .local || k == .cell))) = true) : swapsWith (.ListComp a b c q) (some (.Name y p)) l env = pure true := by
  show (pure (env.blockKind == .function && env.kindOf y == some .local && p.line == q.line && !(c.names.any fun (n, k) => n == y && (k == .local || k == .cell))) : Sem Bool) = pure true
  rw [h, hb, h1, h2]
  rfl
theorem st_nm {y : Str} {p : Pos} {e : Expr} {env : Env} : swappedStores [.Name y p] e env = pure none := by
  cases e <;> rfl
theorem st_tup {l : List Expr} {k : Nat} {p : Pos} {e : Expr} {env : Env} (h : isTupX e = false) : swappedStores [.Tuple l k p] e env = pure none := by
  cases e <;> first | rfl | cases h
theorem st_sub {o i : Expr} {p : Pos} {e : Expr} {env : Env} : swappedStores [.Subscript o i p] e env = pure none := by
  cases e <;> rfl
theorem st_two {x y : Str} {px py : Pos} {k : Nat} {p : Pos} {a b : Expr} {k2 : Nat} {p2 : Pos} {env : Env} (hb : env.blockKind = .function) (hx : env.kindOf x = some .local) (hy : env.kindOf y = some .local) (hl : (py.line == px.line) = true) (hxy : x ≠ y)
    (hp1 : plainX a = true) (hp2 : plainX b = true) (hf : [a, b].all (foldedForSure 8) = false) (hc : [a, b].all (constantsAlone 8) = false) : swappedStores [.Tuple [.Name x px, .Name y py] k p] (.Tuple [a, b] k2 p2) env = pure (some [x, y]) := by
  have hl' : py.line = px.line := by simpa using hl
  have q : ∀ f : Expr → Bool, (∀ z, plainX z = true → f z = false) → [a, b].any f = false := fun f hf => by
    rw [List.any_cons, List.any_cons, List.any_nil, hf a hp1, hf b hp2]
    rfl
  have he : ([x, y] : List Str).eraseDups.length = 2 := by
    rw [List.eraseDups_cons]
    have : (y == x) = false := by
      cases q : y == x with
      | false => rfl
      | true => exact absurd (eq_of_beq q).symm hxy
    simp [List.filter_cons, this, List.eraseDups_cons]
  unfold swappedStores
  simp only [hb, hx, hy, List.filterMap_cons, List.filterMap_nil, List.head?_cons, Option.map_some, Option.getD_some, Expr.pos, hl', beq_self_eq_true, Bool.and_self, if_true, List.length_cons, List.length_nil]
  rw [if_neg (by decide), if_neg (by rw [q _ fun z hz => by cases z <;> first | rfl | cases hz]; decide), hf, hc]
  simp [he]

structure OkS (Γ : Gm) (n : Nat) (cl : Nat → Addr) (call : Nat → List D → M D) (X : Cx) (W : WX) (d : Dsc) : Prop where
  x : OkX Γ n cl call X W d
  bk : X.env.blockKind = .function
  po : PassesOwn (model X.prog X.w) X.A X.env X.xe
section
variable {Γ : Gm} {n : Nat} {cl : Nat → Addr} {call : Nat → List D → M D} {X : Cx} {W : WX} {d : Dsc}
theorem comp_form {e : E} {x : Expr} (h : chk Γ d e x = true) : isCompX x = false ∨ ∃ a b c q, x = .ListComp a b c q := by
  cases x <;> first | exact .inl rfl | exact .inr ⟨_, _, _, _, rfl⟩ | (cases e <;> (unfold chk at h; cases h))
theorem ss_asgC {i : Nat} {e : E} {y : Str} {p : Pos} {e' : Expr} {pos : Pos} (o : OkS Γ n cl call X W d) (h1 : chk Γ d e e' = true) (h2 : d.N[i]? = some y) (h3 : swapC d y p pos.line e' = true) : PS X (.Assign [.Name y p] e' pos) (tS X.K cl W (mAsg (.nm i) (ev call Γ.gl e).v)) := by
  have f := comp_form h1
  rcases f with f | ⟨el, gs, scope, q, rfl⟩
  · cases e' <;> first | (unfold swapC at h3; cases h3; done) | (cases f; done)
  · unfold swapC at h3
    simp only [Bool.and_eq_true, decide_eq_true_eq] at h3
    obtain ⟨k1, k2, k3⟩ := h3
    have k1' : X.env.scope.names.lookup y = some .local := by rw [o.x.sc]; exact k1
    have hN : X.N[i]? = some y := by rw [o.x.N]; exact h2
    cases e <;> try (unfold chk at h1; cases h1; done)
    · obtain ⟨tg, it', e', scope', pos', e0, g1, g2, g3, g4, g5⟩ := inv_comp h1
      cases e0
      unfold ev
      exact ss_setComp o.x.g hN k1' (sw_local o.bk k1' (by simpa using k2) k3) ((snd _ _ o.x g1).i tg) (blk_ok o.x g4) (fun s H C c fp => tg_ok (o.x.blk s H _ C c fp) _ tg g2) (fun s H C c fp => sts_nil) (fun s H C c fp => (snd _ _ (o.x.blk s H _ C c fp) g3).v) (fun _ => folded_plain (chk_plain g1) _ _) (slots_of g5)
    · obtain ⟨tg, it', c', e', scope', pos', e0, g1, g2, g3, g4, g5, g6⟩ := inv_compIf h1
      cases e0
      unfold ev
      exact ss_setComp o.x.g hN k1' (sw_local o.bk k1' (by simpa using k2) k3) ((snd _ _ o.x g1).i tg) (blk_ok o.x g5) (fun s H C c fp => tg_ok (o.x.blk s H _ C c fp) _ tg g2) (fun s H C c fp => sts_one (snd _ _ (o.x.blk s H _ C c fp) g3).t) (fun s H C c fp => (snd _ _ (o.x.blk s H _ C c fp) g4).v) (fun _ => folded_plain (chk_plain g1) _ _) (slots_of g6)
theorem ss_asgT {t : Tg} {e : E} {tg e' : Expr} {pos : Pos} (o : OkS Γ n cl call X W d) (h1 : chk Γ d e e' = true) (h2 : chkT d t tg = true) (h3 : (!isCompX e' || cellNm d tg) = true) (h4 : (!isTupX e' || isNmX tg) = true) : PS X (.Assign [tg] e' pos) (tS X.K cl W (mAsg t (ev call Γ.gl e).v)) := by
  have p := asgEach_plain h2 [] X.env
  have hh : (assignEach [tg] X.env).map (·.2) = [assign tg X.env] := by rw [p]; rfl
  have hs : swapsWithSole [tg] e' pos.line X.env = pure false := by
    show swapsWith e' (some tg) pos.line X.env = pure false
    cases q : isCompX e' with
    | false => exact sw_none q
    | true =>
      rw [q] at h3
      have h5 : cellNm d tg = true := by simpa using h3
      clear h3 hh p
      obtain ⟨y, p, rfl, h6⟩ : ∃ y p, tg = .Name y p ∧ d.sc.names.lookup y = some .cell := by
        cases tg <;> first | (unfold cellNm at h5; cases h5; done) | exact ⟨_, _, rfl, of_decide_eq_true h5⟩
      exact sw_cell (by show X.env.scope.names.lookup y = _; rw [o.x.sc]; exact h6) (comp_form h1)
  have hw : swappedStores [tg] e' X.env = pure none := by
    cases t with
    | nm i =>
      cases tg <;> first | exact st_nm | (unfold chkT at h2; cases h2)
    | tp l =>
      cases tg <;> try (unfold chkT at h2; cases h2; done)
      refine st_tup ?_
      simpa [isNmX] using h4
  exact ss_asg (snd e e' o.x h1).v (tg_ok o.x t tg h2) hs hw hh
theorem ss_setIxT {eo ei e : E} {o' i' e' : Expr} {p pos : Pos} (o : OkS Γ n cl call X W d) (h1 : chk Γ d eo o' = true) (h2 : chk Γ d ei i' = true) (h3 : chk Γ d e e' = true) : PS X (.Assign [.Subscript o' i' p] e' pos) (tS X.K cl W (mSetIx (ev call Γ.gl eo).v (ev call Γ.gl ei).v (ev call Γ.gl e).v)) := by
  refine ss_setIx (snd _ _ o.x h1).v (snd _ _ o.x h2).v (snd _ _ o.x h3).v (fun v => ?_) ?_ st_sub rfl
  · have pl := chk_plain h2
    cases i' <;> first | rfl | cases pl
  · show swapsWith e' (some (.Subscript o' i' p)) pos.line X.env = pure false
    rcases comp_form h3 with q | ⟨_, _, _, _, rfl⟩
    · exact sw_none q
    · rfl
theorem ss_parT {i j : Nat} {l : List E} {x y : Str} {px py p : Pos} {k : Nat} {a b : Expr} {k2 : Nat} {p2 pos : Pos} (o : OkS Γ n cl call X W d) (h1 : chks Γ d l [a, b] = true) (h2 : d.N[i]? = some x) (h3 : d.N[j]? = some y) (h4 : i ≠ j) (h5 : d.sc.names.lookup x = some .local) (h6 : d.sc.names.lookup y = some .local) (h7 : (py.line == px.line) = true) (h8 : x ≠ y)
    (h9 : [a, b].all (foldedForSure 8) = false) (h10 : [a, b].all (constantsAlone 8) = false) : PS X (.Assign [.Tuple [.Name x px, .Name y py] k p] (.Tuple [a, b] k2 p2) pos) (tS X.K cl W (mPar i j (mArgs (evs call Γ.gl l)))) := by
  have hx : X.env.scope.names.lookup x = some .local := by rw [o.x.sc]; exact h5
  have hy : X.env.scope.names.lookup y = some .local := by rw [o.x.sc]; exact h6
  have r := snds l [a, b] o.x h1
  have hp : plainX a = true ∧ plainX b = true := by
    generalize evs call Γ.gl l = ms at r
    cases r with
    | cons s p r => cases r with
      | cons s' p' r' => exact ⟨p, p'⟩
  exact ss_par o.x.g (by rw [o.x.N]; exact h2) (by rw [o.x.N]; exact h3) h4 hx hy r.args (st_two o.bk hx hy h7 h8 hp.1 hp.2 h9 h10) rfl
end
end MC

set_option maxHeartbeats 4000000
/-! MC, part 16: statements are sound; defs are. -/
namespace MC
open PySem PySem.Spec PyProof.Rows L2

section
variable {Γ : Gm} {n : Nat} {cl : Nat → Addr} {call : Nat → List D → M D}
def S.ghost : S → Bool
  | .frz _ => true
  | _ => false
theorem chkSs_cons {d : Dsc} {s : S} {l : List S} {xs : List Stmt} (hs : s.ghost = false) (h : chkSs Γ d (s :: l) xs = true) : ∃ x r, xs = x :: r ∧ chkS Γ d s x = true ∧ chkSs Γ d l r = true := by
  cases s <;> try (cases hs; done)
  all_goals
    cases xs with
    | nil => unfold chkSs at h; cases h
    | cons x r =>
      unfold chkSs at h
      rw [Bool.and_eq_true] at h
      exact ⟨x, r, rfl, h.1, h.2⟩
theorem evSs_cons {s : S} {l : List S} : evSs call Γ.gl (s :: l) = mSeq (evS call Γ.gl s) (evSs call Γ.gl l) := by conv => lhs; unfold evSs
mutual
theorem sndS {X : Cx} {W : WX} {d : Dsc} (o : OkS Γ n cl call X W d) : ∀ (s : S) (x : Stmt), chkS Γ d s x = true → PS X x (tS X.K cl W (evS call Γ.gl s))
  | .asg t e, x, h => by
    obtain ⟨tg, e', pos, rfl, h1, h2, h3, h4⟩ := invS_asg h
    unfold evS
    exact ss_asgT o h1 h2 h3 h4
  | .asgC i e, x, h => by
    obtain ⟨y, p, e', pos, rfl, h1, h2, h3⟩ := invS_asgC h
    unfold evS
    exact ss_asgC o h1 h2 h3
  | .par i j l, x, h => by
    obtain ⟨x, px, y, py, k, p, a, b, k2, p2, pos, rfl, h1, h2, h3, h4, h5, h6, h7, h8, h9, h10⟩ := invS_par h
    unfold evS
    exact ss_parT o h1 h2 h3 h4 h5 h6 h7 h8 h9 h10
  | .setIx a i e, x, h => by
    obtain ⟨o', i', p, e', pos, rfl, h1, h2, h3⟩ := invS_setIx h
    unfold evS
    exact ss_setIxT o h1 h2 h3
  | .ret e, x, h => by
    obtain ⟨e', pos, rfl, h1⟩ := invS_ret h
    unfold evS
    exact ss_ret (snd e e' o.x h1).v
  | .retN, x, h => by
    obtain ⟨pos, rfl⟩ := invS_retN h
    unfold evS
    exact ss_retN
  | .expr e, x, h => by
    obtain ⟨e', pos, rfl, h1, h2⟩ := invS_expr h
    unfold evS
    exact ss_expr (snd e e' o.x h1).v (sw_none h2)
  | .ife c a b, x, h => by
    obtain ⟨c', a', b', pos, rfl, h1, h2, h3⟩ := invS_ife h
    unfold evS
    exact ss_if (snd c c' o.x h1).t (sndSs o a a' h2) (sndSs o b b' h3)
  | .for t it b, x, h => by
    obtain ⟨tg, it', b', pos, rfl, h1, h2, h3⟩ := invS_for h
    unfold evS
    exact ss_for o.po o.x.g ((snd it it' o.x h1).i tg) (tg_ok o.x t tg h2) (sndSs o b b' h3) fun _ => folded_plain (chk_plain h1) _ _
  | .pass, x, h => by
    obtain ⟨pos, rfl⟩ := invS_pass h
    unfold evS
    exact ss_pass
  | .brk, x, h => by
    obtain ⟨pos, rfl⟩ := invS_brk h
    unfold evS
    exact ss_break
  | .cont, x, h => by
    obtain ⟨pos, rfl⟩ := invS_cont h
    unfold evS
    exact ss_continue
  | .frz i, x, h => by
    unfold chkS at h
    cases x <;> cases h
theorem sndSs {X : Cx} {W : WX} {d : Dsc} (o : OkS Γ n cl call X W d) : ∀ (l : List S) (xs : List Stmt), chkSs Γ d l xs = true → PSs X xs (tS X.K cl W (evSs call Γ.gl l))
  | [], xs, h => by
    cases xs with
    | nil => unfold evSs; exact sss_nil
    | cons _ _ => unfold chkSs at h; cases h
  | s :: l, xs, h => by
    rw [evSs_cons]
    cases q : s.ghost with
    | false =>
      obtain ⟨x, r, rfl, h1, h2⟩ := chkSs_cons q h
      exact sss_cons (sndS o s x h1) (sndSs o l r h2)
    | true =>
      have h2 : chkSs Γ d l xs = true := by
        cases s <;> try (cases q; done)
        unfold chkSs at h
        exact h
      have r := sndSs o l xs h2
      cases s <;> try (cases q; done)
      refine PSs.weak r fun D σ H hh => ?_
      unfold evS at hh
      exact frz_read hh
end
end

/-! ### the defs -/
structure FLk (K : PySem.W.Frag) (mg : Str → Option Value) (Γ : Gm) (f : Fn) : Prop where
  ex : ∃ (a : Addr) (fd : FuncData) (nm qual : Str) (params : Arguments) (body : List Stmt) (scope : Scope) (dv : List V) (kv : List (Str × V)),
    mg f.name = some (.ref a) ∧ FunD K nm qual params body scope dv kv a fd ∧ Binds K fd f.ps [] ∧ FnScope f.N f.ps scope ∧ chkSs Γ ⟨scope, f.N, fun _ => true⟩ f.body body = true
theorem RpL.envR {K : PySem.W.Frag} {F : Hp} {cs : CS} {ds : List D} {vs : List V} (r : RpL K F cs ds vs) (N : List Str) : EnvR K F cs (ds.map some ++ List.replicate (N.length - ds.length) none) (L2.start N vs) := by
  unfold L2.start
  rw [← r.length]
  refine ⟨by simp [r.length], fun i d hd => ?_⟩
  by_cases hi : i < ds.length
  · rw [List.getElem?_append_left (by simpa using hi), List.getElem?_map] at hd
    obtain ⟨d', e1, e2⟩ := Option.map_eq_some_iff.mp hd
    cases e2
    obtain ⟨v, h1, h2⟩ := r.get e1
    refine ⟨v, ?_, h2⟩
    rw [List.getElem?_append_left (by simp [← r.length, hi]), List.getElem?_map, h1]
    rfl
  · rw [List.getElem?_append_right (by simpa using hi)] at hd
    have := List.mem_of_getElem? hd
    have := List.eq_of_mem_replicate this
    cases this
section
variable {P : Program} {w : World} {K : PySem.W.Frag} {mg : Str → Option Value} {Γ : Gm} {cl : Nat → Addr} {T : List Fn}
theorem callD_len : ∀ {n : Nat} {i : Nat} {f : Fn} {ds : List D} {st : Sto} {r : Res D}, T[i]? = some f → callD T Γ.gl n i ds st = some r → ds.length = f.ps.length
  | 0, i, f, ds, st, r, hf, h => by cases h
  | n + 1, i, f, ds, st, r, hf, h => by
    unfold callD at h
    rw [hf] at h
    simp only at h
    split at h
    · assumption
    · cases h
theorem all_ok (hΓ : Γ.fns = T.map (·.name)) (lk : ∀ (i : Nat) (f : Fn), T[i]? = some f → FLk K mg Γ f) (km : KMod K) (free : ∀ x ∈ Γ.free, mg x = none)
    (gl : ∀ x d, Γ.gl.lookup x = some d → ∃ (u : Value) (v : V), mg x = some u ∧ RelV v u ∧ ∀ F cs, Rp K F cs d v) :
    ∀ (n i : Nat) (f : Fn), T[i]? = some f → ∃ (a : Addr) (fd : FuncData), mg f.name = some (.ref a) ∧ PySem.W.keepIn K (.ref a) = true ∧ Binds K fd f.ps [] ∧ ∀ base : Heap, Fk P w K mg base n a fd f.ps (spD K cl f.ps.length (callD T Γ.gl n i)) := by
  intro n
  induction n with
  | zero =>
    intro i f hf
    obtain ⟨a, fd, nm, qual, params, body, scope, dv, kv, h1, h2, h3, h4, h5⟩ := (lk i f hf).ex
    refine ⟨a, fd, h1, h2.kp, h3, fun base => ⟨fun vs H Q E h => h.1, fun A outer s H args us vs Q E room gu e0 binds r want => ?_⟩⟩
    obtain ⟨_, F, cs, ds, st, r, w, rr, hm, _⟩ := want
    cases hm
  | succ n ih =>
    intro i f hf
    obtain ⟨a, fd, nm, qual, params, body, scope, dv, kv, h1, h2, h3, h4, h5⟩ := (lk i f hf).ex
    refine ⟨a, fd, h1, h2.kp, h3, fun base => ?_⟩
    refine fk_of h2 h4 (fun vs H Q E h => h.1) fun cv A outer s H vs Q E room gu want => ?_
    obtain ⟨hl, F, cs, ds, st, r, wd, rr, hm, o⟩ := want
    let X := cxOf (L2.CX P w) P w K mg base f.N qual scope a cv A outer s H E
    have tk : Takes X (fun c d _ H => E c d H) := takes_of rfl rfl rfl rfl
    have ox : OkX Γ n cl (callD T Γ.gl n) X (fun c d _ H => E c d H) ⟨scope, f.N, fun _ => true⟩ := by
      refine ⟨⟨km, room, free, gl, fun j x hx => ?_⟩, ⟨rfl, h4.nd, tk, gu, by have := room.un; show (A.deeper (envOfC qual scope s.heap.objs.size a cv)).units + 100 < cLine; omega⟩, rfl, rfl, rfl⟩
      rw [hΓ, List.getElem?_map] at hx
      obtain ⟨g, e1, rfl⟩ := Option.map_eq_some_iff.mp hx
      obtain ⟨b, fd2, k1, k2, k3, k4⟩ := ih j g e1
      exact ⟨b, fd2, g.ps, k1, k2, k3, k4 base, fun ds st r => callD_len e1⟩
    have os : OkS Γ n cl (callD T Γ.gl n) X (fun c d _ H => E c d H) ⟨scope, f.N, fun _ => true⟩ := by
      refine ⟨ox, ?_, passes_of rfl⟩
      show (if scope.kind.isAnnotationScope then ScopeKind.function else scope.kind) = .function
      rw [h4.kind]
      rfl
    refine ⟨_, sndSs os f.body body h5, ?_⟩
    unfold callD at hm
    rw [hf] at hm
    simp only at hm
    split at hm
    · rename_i hlen
      have hm := (show (match evSs (callD T Γ.gl n) Γ.gl f.body (ds.map some ++ List.replicate (f.N.length - ds.length) none) st with
        | some (.rt d st') => some (.ok d st')
        | some (.nx _ st') => some (.ok .non st')
        | some (.ex c _ st') => some (.ex c st')
        | _ => none) = some r from hm)
      cases q : evSs (callD T Γ.gl n) Γ.gl f.body (ds.map some ++ List.replicate (f.N.length - ds.length) none) st with
      | none => rw [q] at hm; cases hm
      | some z =>
        rw [q] at hm
        refine ⟨F, cs, _, st, z, wd, rr.envR f.N, q, ?_⟩
        cases z with
        | rt d st' =>
          cases hm
          exact fun F' cs' v H' e w' r' => o F' cs' v H' e w' r'
        | nx ρ st' =>
          cases hm
          exact fun F' cs' σ' H' e w' en' => o F' cs' .non H' e w' .non
        | ex c ρ st' =>
          cases hm
          exact fun F' cs' σ' H' e w' en' => o F' cs' H' e w'
        | bk ρ st' => cases hm
        | ct ρ st' => cases hm
    · cases hm
end
end MC

set_option maxHeartbeats 4000000
/-! MC, part 17: the end of a law; the facts of the head. -/
namespace MC
open PySem PySem.Spec PyProof.Rows L2

/-! ### the law is called -/
section
variable {P : Program} {w : World} {K : PySem.W.Frag} {mg mb : Str → Option Value} {k : Nat} {fa a : Addr} {fd : FuncData} {x : Str} {cl : Nat → Addr} {m : List D → M D} {s1 : Shared} {its : List Value} {ns : List Int}
def lawObj (its : List Value) : Obj := { cls := .type "list", data := .seq its.toArray }
/-- what is tracked when the law starts: the script, or nothing (if the script were one of the module's own) -/
theorem lawHp (kin : K.In s1.heap) (hs : s1.heap.get? a = some (lawObj its)) (hi : IntsAre its ns) (hl : ns.length ≤ sizeLine) :
    ∃ H : Hp, SqL K H a (ns.map V.int) ∧ HOk P w H s1.heap ∧ ∀ b u, H b = some u → b = a ∧ K.lookup a = none ∧ u = .frz (lawObj its) (.lst (ns.map V.int)) := by
  have rel : Vals (ns.map V.int) its := vals_ints hi
  have len : its.length = ns.length := by
    have := rel.length
    rw [List.length_map] at this
    exact this.symm
  cases q : K.lookup a with
  | some ob =>
    obtain rfl : ob = lawObj its := by
      have z := kin a ob q
      rw [hs] at z
      exact (Option.some.inj z).symm
    refine ⟨fun _ => none, .inr ⟨lawObj its, its.toArray, 0, q, rfl, rfl, rfl, ?_, ?_⟩, fun b u z => (nomatch (show (none : Option HO) = some u from z)), fun b u z => (nomatch (show (none : Option HO) = some u from z))⟩
    · rw [List.size_toArray, len]
      exact hl
    · rw [List.toList_toArray]
      exact rel
  | none =>
    have atA : ∀ b u, (if b = a then some (HO.frz (lawObj its) (.lst (ns.map V.int))) else none) = some u → b = a ∧ u = .frz (lawObj its) (.lst (ns.map V.int)) := fun b u z => by
      by_cases hb : b = a
      · rw [if_pos hb] at z
        exact ⟨hb, (Option.some.inj z).symm⟩
      · rw [if_neg hb] at z
        cases z
    refine ⟨fun b => if b = a then some (.frz (lawObj its) (.lst (ns.map V.int))) else none, .inl (.inr ⟨lawObj its, if_pos rfl⟩), fun b u z => ?_, fun b u z => ?_⟩
    · obtain ⟨rfl, rfl⟩ := atA b u z
      exact ⟨hs, by rw [List.length_map]; exact hl, its, _, rel, hs⟩
    · exact ⟨(atA b u z).1, rfl, (atA b u z).2⟩
theorem lawRun (kin : K.In s1.heap) (gn : s1.heap.Ns mainGlobals mg) (bn : s1.heap.Ns builtinsNs mb) (bb : ∀ y : Str, y ≠ "__name__" → mb y = bootBuiltins y) (lim : s1.heap.NoLimit) (gens : s1.gens = #[])
    (hs : s1.heap.get? a = some (lawObj its)) (hi : IntsAre its ns) (hl : ns.length ≤ sizeLine) (room : Room k callerA) (gu : callerA.guards = some []) (bind : Binds K fd [x] [])
    (F : ∀ base : Heap, K.In base → base.Ns mainGlobals mg → Fk P w K mg base k fa fd [x] (spD K cl 1 m)) (hm : ∃ st, m [.ro (ns.map .int)] [] = some (.ok (.bl true) st)) :
    codeAny (model P w) callerA (.call (.ref fa) ⟨[.ref a], []⟩) (fun r t => r = .ok (.ret (.bool true)) ∧ OldK s1.heap t.heap ∧ t.os = s1.os ∧ AllBare t.gens) s1 := by
  obtain ⟨H, sq, hok, only⟩ := lawHp (P := P) (w := w) kin hs hi hl
  have free : ∀ {b : Addr} {o : Obj}, s1.heap.get? b = some o → (b = a → False) → (hidT s1.heap H).get? b = some o := fun {b o} e hb => hidT_get e (by
    cases q : H b with
    | none => rfl
    | some u => exact (hb (only b u q).1).elim)
  have names : ∀ {b : Addr} {mm : Str → Option Value}, s1.heap.Ns b mm → (hidT s1.heap H).Ns b mm := fun {b mm} hn => by
    obtain ⟨o, es, ep, e, d, r⟩ := hn
    refine ⟨o, es, ep, free e fun z => ?_, d, r⟩
    subst z
    rw [hs] at e
    cases e
    cases d
  have kinB : K.In (hidT s1.heap H) := fun b o e => by
    refine hidT_get (kin b o e) ?_
    cases q : H b with
    | none => rfl
    | some u =>
      obtain ⟨rfl, z, _⟩ := only b u q
      rw [z] at e
      cases e
  obtain ⟨ml, l1, l2⟩ := lim
  have e0 : Env0 P w K mg (hidT s1.heap H) callerA [] s1 H :=
    { frames := rfl, mod := ⟨kinB, names gn, ⟨mb, names bn, bb⟩, ⟨ml, names l1, l2⟩⟩, bs := fun b o e => of_hidT e, bsz := by rw [hidT_size]; exact Nat.le_refl _, funs := trivial, frf := fun b hb => (List.not_mem_nil hb).elim, hok := hok, bare := .of_eq gens }
  obtain ⟨st, hst⟩ := hm
  have want : spD K cl 1 m [.ref a] H (fun v _ => v = .bl true) (fun _ _ _ => False) := by
    refine ⟨rfl, H, ⟨[], []⟩, [.ro (ns.map .int)], [], _, ⟨fun _ _ z => z, rfl, fun n c b z _ _ => (nomatch (show (none : Option C) = some c from z)), fun n _ c _ b z _ _ _ _ _ => (nomatch (show (none : Option C) = some c from z)), fun p hp => (List.not_mem_nil hp).elim, fun n c b p z _ _ _ => (nomatch (show (none : Option C) = some c from z)), List.nodup_nil⟩, .cons (.ro sq ?_) .nil, hst, ?_⟩
    · clear hst sq hok only hs hi hl
      induction ns with
      | nil => exact .nil
      | cons n ns ih => exact .cons (.int n) ih
    · intro F' cs' v H' _ _ r
      cases r
      rfl
  have bd := bind s1 [.ref a] kin rfl
  refine codeAny_mono ((F _ kinB (names gn)).run callerA [] s1 H ⟨[.ref a], []⟩ [.ref a] [.ref a] _ _ room gu e0 bd (.cons rfl .nil) want) fun r t got => ?_
  match r, got with
  | .ok (.ret u), ⟨v, H', os, bare, un, hok', rv, q⟩ =>
    obtain rfl : v = .bl true := q
    obtain rfl : u = Value.bool true := rv
    refine ⟨rfl, OldK.of_keep fun b o e => ?_, os, bare⟩
    cases q : H b with
    | none => exact un.keep b o e q (fun z => (List.not_mem_nil z).elim) (by simp)
    | some u =>
      obtain ⟨rfl, _, rfl⟩ := only b u q
      have z1 := (hok b _ q).1
      have z2 := (hok' b _ (un.frzs b _ _ q)).1
      rw [e] at z1
      cases z1
      exact z2
  | .ok .next, z => exact False.elim z
  | .ok .brk, z => exact False.elim z
  | .ok .cont, z => exact False.elim z
  | .error e, z =>
    obtain ⟨_, _, _, _, _, _, _, _, _, _, _, _, f⟩ := (show L2.CX P w [] H s1 (fun _ _ _ => False) e t from z)
    exact f.elim
end
theorem law_end {l : PySem.W.OpenLaw} {n k : Nat} {q : Program} {loose : List Str} {XP : (Str → Option Value) → Heap → Prop} {YP : World → Heap → Prop} {d : DefRec} {x : Str}
    (hn : l.most = some n) (hz : n ≤ sizeLine) (hdf : d.params.defaults = []) (room : Room k callerA) (gu : callerA.guards = some [])
    (F : ∀ (w : World) (mg : Str → Option Value) (fa : Addr) (h : Heap), YP w h → h.Ns mainGlobals mg → mg d.name = some (.ref fa) →
      ∃ (K : PySem.W.Frag) (fd : FuncData) (cl : Nat → Addr) (m : List D → M D), K.In h ∧ Binds K fd [x] [] ∧ (∀ ns : List Int, ns.length ≤ n → ∃ st, m [.ro (ns.map .int)] [] = some (.ok (.bl true) st)) ∧
        ∀ base : Heap, K.In base → base.Ns mainGlobals mg → Fk l.prog w K mg base k fa fd [x] (spD K cl 1 m)) :
    PySem.W.WalkO q loose XP YP l.row.toRowW d [] (fun f vs => PySem.call f vs) := by
  refine Att.attach_call hn hdf fun w s0 s1 mg mb fa o pm cd doc a vs ns G Y ho hd hcd hm hobj hints hlen hg => ?_
  obtain ⟨K, fd, cl, m, kin, bind, all, hF⟩ := F w mg fa s1.heap Y G.T.g hm
  exact lawRun kin G.T.g G.T.b G.T.builtins G.T.nolimit hg hobj hints (Nat.le_trans hlen hz) room gu bind hF (all ns hlen)

/-! ### facts of the head -/
mutual
def relD (K : PySem.W.Frag) : D → Value → Bool
  | .tup l, .ref a => (match K.lookup a with
    | some ⟨.type c, _, .seq its _, _⟩ => decide (c = "tuple") && (decide (its.size ≤ sizeLine) && relDs K l its.toList)
    | _ => false)
  | .ro l, .ref a => (match K.lookup a with
    | some ⟨.type c, none, .seq its _, _⟩ => decide (c = "list") && (decide (its.size ≤ sizeLine) && relDs K l its.toList)
    | _ => false)
  | .non, .none => true
  | .bl b, .bool c => b == c
  | .int i, .int j _ => decide (i = j)
  | .str x, .str y _ => decide (x = y)
  | _, _ => false
def relDs (K : PySem.W.Frag) : List D → List Value → Bool
  | [], [] => true
  | d :: ds, u :: us => relD K d u && relDs K ds us
  | _, _ => false
end
mutual
theorem relD_ok {K : PySem.W.Frag} : ∀ {d : D} {u : Value}, relD K d u = true → ∃ v, RelV v u ∧ ∀ F cs, Rp K F cs d v
  | .non, u, h => by
    cases u <;> first | exact ⟨.non, rfl, fun _ _ => .non⟩ | (unfold relD at h; cases h)
  | .bl b, u, h => by
    cases u <;> try (unfold relD at h; cases h; done)
    unfold relD at h
    obtain rfl := eq_of_beq h
    exact ⟨.bl b, rfl, fun _ _ => .bl b⟩
  | .int i, u, h => by
    cases u <;> try (unfold relD at h; cases h; done)
    unfold relD at h
    obtain rfl := of_decide_eq_true h
    exact ⟨.int i, ⟨_, rfl⟩, fun _ _ => .int i⟩
  | .str i, u, h => by
    cases u <;> try (unfold relD at h; cases h; done)
    unfold relD at h
    obtain rfl := of_decide_eq_true h
    exact ⟨.str i, ⟨_, rfl⟩, fun _ _ => .str i⟩
  | .tup l, u, h => by
    cases u <;> try (unfold relD at h; cases h; done)
    rename_i a
    unfold relD at h
    split at h
    · rename_i c od its n sl hk
      rw [Bool.and_eq_true, Bool.and_eq_true] at h
      obtain ⟨h1, h2, h3⟩ := h
      obtain ⟨vs, r1, r2⟩ := relDs_ok h3
      exact ⟨.ref a, rfl, fun F cs => .tup (.inr ⟨_, its, n, hk, congrArg Value.type (of_decide_eq_true h1), rfl, of_decide_eq_true h2, r1⟩) (r2 F cs)⟩
    · cases h
  | .ro l, u, h => by
    cases u <;> try (unfold relD at h; cases h; done)
    rename_i a
    unfold relD at h
    split at h
    · rename_i c its n sl hk
      rw [Bool.and_eq_true, Bool.and_eq_true] at h
      obtain ⟨h1, h2, h3⟩ := h
      obtain ⟨vs, r1, r2⟩ := relDs_ok h3
      exact ⟨.ref a, rfl, fun F cs => .ro (.inr ⟨_, its, n, hk, congrArg Value.type (of_decide_eq_true h1), rfl, rfl, of_decide_eq_true h2, r1⟩) (r2 F cs)⟩
    · cases h
  | .lst l, u, h => by cases u <;> (unfold relD at h; cases h)
  | .dic _ _, u, h => by cases u <;> (unfold relD at h; cases h)
  | .cell _, u, h => by cases u <;> (unfold relD at h; cases h)
  | .ty _, u, h => by cases u <;> (unfold relD at h; cases h)
theorem relDs_ok {K : PySem.W.Frag} : ∀ {d : List D} {u : List Value}, relDs K d u = true → ∃ v, Vals v u ∧ ∀ F cs, RpL K F cs d v
  | [], u, h => by
    cases u with
    | nil => exact ⟨[], .nil, fun _ _ => .nil⟩
    | cons _ _ => unfold relDs at h; cases h
  | d :: ds, u, h => by
    cases u with
    | nil => unfold relDs at h; cases h
    | cons u us =>
      unfold relDs at h
      rw [Bool.and_eq_true] at h
      obtain ⟨v, r1, r2⟩ := relD_ok h.1
      obtain ⟨vs, r3, r4⟩ := relDs_ok h.2
      exact ⟨v :: vs, .cons r1 r3, fun F cs => .cons (r2 F cs) (r4 F cs)⟩
end
/-- what the look asks of a module's names -/
def kmB (K : PySem.W.Frag) : Bool := match K.lookup sysModules with
  | some o => (match o.cls with
    | .type c => c == "dict"
    | _ => false)
  | none => false
theorem kmB_ok {K : PySem.W.Frag} (h : kmB K = true) : KMod K := by
  unfold kmB at h
  split at h
  · rename_i o ho
    refine ⟨o, ho, ?_⟩
    split at h
    · rename_i c hc
      rw [hc, eq_of_beq h]
    · cases h
  · cases h
def glbB (K : PySem.W.Frag) (p : Str × D) : Bool := match PySem.W.nsIn K mainGlobals p.1 with
  | some (some u) => relD K p.2 u
  | _ => false
def ckB (Γ : Gm) (K : PySem.W.Frag) : Bool := kmB K && ((Γ.fns.all fun x => (He.Fa.glo x).ok K) && ((Γ.free.all fun x => (He.Fa.free x).ok K) && (Γ.gl.all (glbB K))))
def obsM (Γ : Gm) (fn : List He.DefD) (K : PySem.W.Frag) : He.AlD := (ckB Γ K && fn.all fun d => d.ok K, fn.map fun d => He.fnW K d.at_)
def frM (n : Nat) (g : Addr → Option Obj) : PySem.W.Frag := He.frG g (sysModules :: He.asD g n)
def hookM (n : Nat) (Γ : Gm) (fn : List He.DefD) : PySem.W.Hook where
  α := He.AlD
  obs := fun s => obsM Γ fn (frM n s.heap.get?)
  val := fun _ => He.valD fn
  says := fun _ h => ∃ K : PySem.W.Frag, K.In h ∧ obsM Γ fn K = He.valD fn
  of := fun _ _ e => ⟨_, He.frG_in, e⟩
  keeps := fun _ _ _ ⟨K, hK, c⟩ k => ⟨K, PySem.W.Frag.In.keeps hK k, c⟩
theorem hookM_eq {n : Nat} {Γ : Gm} {fn : List He.DefD} {g : Addr → Option Obj} {s : Shared} (h : ∀ a, g a = s.heap.get? a) : obsM Γ fn (frM n g) = (hookM n Γ fn).obs s := by
  have e : g = s.heap.get? := funext h
  rw [e] <;> rfl
section
variable {Γ : Gm} {fn : List He.DefD} {K : PySem.W.Frag} {h : Heap} {mg : Str → Option Value}
theorem saysM_ck (c : obsM Γ fn K = He.valD fn) : ckB Γ K = true := by
  have c1 : (ckB Γ K && fn.all fun d => d.ok K) = true := congrArg (fun z : He.AlD => z.1) c
  rw [Bool.and_eq_true] at c1
  exact c1.1
theorem saysM_def (c : obsM Γ fn K = He.valD fn) (i : Nat) {d : He.DefD} (hd : fn[i]? = some d) : ∃ fd, FunD K d.name d.qual d.params d.body d.scope (d.dvs K) (d.kws K) (He.fAd K d.at_) fd := by
  have c1 : (ckB Γ K && fn.all fun d => d.ok K) = true := congrArg (fun z : He.AlD => z.1) c
  rw [Bool.and_eq_true, List.all_eq_true] at c1
  have e : (fn.map fun d => He.fnW K d.at_)[i]? = (fn.map He.DefD.val)[i]? := congrArg (fun z : He.AlD => z.2[i]?) c
  rw [List.getElem?_map, List.getElem?_map, hd] at e
  exact He.DefD.funD (Option.some.inj e) (c1.2 d (List.mem_of_getElem? hd))
theorem ck_parts (c : ckB Γ K = true) : kmB K = true ∧ (∀ x ∈ Γ.fns, (He.Fa.glo x).ok K = true) ∧ (∀ x ∈ Γ.free, (He.Fa.free x).ok K = true) ∧ ∀ p ∈ Γ.gl, glbB K p = true := by
  unfold ckB at c
  rw [Bool.and_eq_true, Bool.and_eq_true, Bool.and_eq_true, List.all_eq_true, List.all_eq_true, List.all_eq_true] at c
  exact c
theorem lookup_in {α : Type} {x : Str} {d : α} : ∀ {l : List (Str × α)}, l.lookup x = some d → (x, d) ∈ l
  | [], h => by cases h
  | (y, e) :: l, h => by
    rw [List.lookup_cons] at h
    cases q : x == y with
    | true =>
      rw [q] at h
      cases h
      rw [eq_of_beq q]
      exact List.mem_cons_self
    | false =>
      rw [q] at h
      exact List.mem_cons_of_mem _ (lookup_in h)
theorem gl_ok (kin : K.In h) (G : h.Ns mainGlobals mg) (c : ckB Γ K = true) (x : Str) (d : D) (hx : Γ.gl.lookup x = some d) : ∃ (u : Value) (v : V), mg x = some u ∧ RelV v u ∧ ∀ F cs, Rp K F cs d v := by
  have q := (ck_parts c).2.2.2 (x, d) (lookup_in hx)
  unfold glbB at q
  split at q
  · rename_i u hu
    obtain ⟨v, r1, r2⟩ := relD_ok q
    exact ⟨u, v, PySem.W.mg_of kin G hu, r1, r2⟩
  · cases q
end
theorem caller_gu : callerA.guards = some [] := rfl
end MC

set_option maxHeartbeats 4000000
/-! MC, part 18: running the terms in plain Lean. -/
namespace MC
open PySem PySem.Spec PyProof.Rows L2

def Go {α : Type} (m : M α) (st : Sto) (Q : Res α → Prop) : Prop := ∃ r, m st = some r ∧ Q r
def GoS (m : MS) (ρ : Rho) (st : Sto) (Q : SR → Prop) : Prop := ∃ r, m ρ st = some r ∧ Q r
theorem Go.mono {α : Type} {m : M α} {st : Sto} {Q Q' : Res α → Prop} (h : Go m st Q) (q : ∀ r, Q r → Q' r) : Go m st Q' := let ⟨r, e, z⟩ := h; ⟨r, e, q r z⟩
theorem GoS.mono {m : MS} {ρ : Rho} {st : Sto} {Q Q' : SR → Prop} (h : GoS m ρ st Q) (q : ∀ r, Q r → Q' r) : GoS m ρ st Q' := let ⟨r, e, z⟩ := h; ⟨r, e, q r z⟩
/-- what follows a value -/
def kR {α β : Type} (f : α → Sto → Prop) (g : Res β → Prop) : Res α → Prop
  | .ok a st => f a st
  | .ex c st => g (.ex c st)
def kS {α : Type} (ρ : Rho) (f : α → Sto → Prop) (g : SR → Prop) : Res α → Prop
  | .ok a st => f a st
  | .ex c st => g (.ex c ρ st)
def kQ (f : Rho → Sto → Prop) (g : SR → Prop) : SR → Prop
  | .nx ρ st => f ρ st
  | r => g r
def kC (Q : Res D → Prop) : SR → Prop
  | .rt d st => Q (.ok d st)
  | .nx _ st => Q (.ok .non st)
  | .ex c _ st => Q (.ex c st)
  | _ => False
section
variable {α β : Type} {st : Sto}
theorem kR_ok (f : α → Sto → Prop) (g : Res β → Prop) (a : α) : kR f g (.ok a st) = f a st := rfl
theorem kR_ex (f : α → Sto → Prop) (g : Res β → Prop) (c : Nat) : kR f g (.ex c st) = g (.ex c st) := rfl
theorem kS_ok (ρ : Rho) (f : α → Sto → Prop) (g : SR → Prop) (a : α) : kS ρ f g (.ok a st) = f a st := rfl
theorem kS_ex (ρ : Rho) (f : α → Sto → Prop) (g : SR → Prop) (c : Nat) : kS ρ f g (.ex c st) = g (.ex c ρ st) := rfl
theorem kQ_nx (f : Rho → Sto → Prop) (g : SR → Prop) (ρ : Rho) : kQ f g (.nx ρ st) = f ρ st := rfl
theorem kQ_rt (f : Rho → Sto → Prop) (g : SR → Prop) (d : D) : kQ f g (.rt d st) = g (.rt d st) := rfl
theorem kQ_bk (f : Rho → Sto → Prop) (g : SR → Prop) (d : Rho) : kQ f g (.bk d st) = g (.bk d st) := rfl
theorem kQ_ct (f : Rho → Sto → Prop) (g : SR → Prop) (d : Rho) : kQ f g (.ct d st) = g (.ct d st) := rfl
theorem kQ_ex (f : Rho → Sto → Prop) (g : SR → Prop) (c : Nat) (d : Rho) : kQ f g (.ex c d st) = g (.ex c d st) := rfl
theorem kC_rt (Q : Res D → Prop) (d : D) : kC Q (.rt d st) = Q (.ok d st) := rfl
theorem kC_nx (Q : Res D → Prop) (ρ : Rho) : kC Q (.nx ρ st) = Q (.ok .non st) := rfl
theorem kC_ex (Q : Res D → Prop) (c : Nat) (ρ : Rho) : kC Q (.ex c ρ st) = Q (.ex c st) := rfl
theorem go_ret (a : α) (Q : Res α → Prop) : Go (M.ret a) st Q = Q (.ok a st) := by
  apply propext
  exact ⟨fun ⟨r, e, q⟩ => by cases e; exact q, fun q => ⟨_, rfl, q⟩⟩
theorem go_no (Q : Res α → Prop) : Go M.no st Q = False := by
  apply propext
  exact ⟨fun ⟨r, e, q⟩ => (by cases e), fun z => z.elim⟩
theorem go_some (a : α) (Q : Res α → Prop) : Go (M.opt (some a)) st Q = Q (.ok a st) := go_ret a Q
theorem go_opt (a : Option α) (Q : Res α → Prop) : Go (M.opt a) st Q = ∃ x, a = some x ∧ Q (.ok x st) := by
  cases a with
  | none => rw [M.opt_none, go_no]; simp
  | some x => rw [M.opt_some, go_ret]; simp
theorem go_bind (x : M α) (f : α → M β) (Q : Res β → Prop) : Go (x.bind f) st Q = Go x st (kR (fun a st' => Go (f a) st' Q) Q) := by
  apply propext
  unfold Go M.bind
  cases e : x st with
  | none => simp
  | some r => cases r with
    | ok a s => simp [kR]
    | ex c s => simp [kR]
theorem gos_bind (x : M α) (ρ : Rho) (f : α → Sto → Option SR) (Q : SR → Prop) : (∃ r, bindS x ρ f st = some r ∧ Q r) = Go x st (kS ρ (fun a st' => ∃ r, f a st' = some r ∧ Q r) Q) := by
  apply propext
  unfold Go bindS
  cases e : x st with
  | none => simp
  | some r => cases r with
    | ok a s => simp [kS]
    | ex c s => simp [kS]
variable {ρ : Rho} {Q : SR → Prop}
theorem gos_seq (a b : MS) : GoS (mSeq a b) ρ st Q = GoS a ρ st (kQ (fun ρ' st' => GoS b ρ' st' Q) Q) := by
  apply propext
  unfold GoS mSeq
  cases e : a ρ st with
  | none => simp
  | some r => cases r <;> simp [kQ, GoS]
theorem gos_next : GoS mNext ρ st Q = Q (.nx ρ st) := by
  apply propext
  exact ⟨fun ⟨r, e, q⟩ => by cases e; exact q, fun q => ⟨_, rfl, q⟩⟩
theorem gos_brk : GoS mBrk ρ st Q = Q (.bk ρ st) := by
  apply propext
  exact ⟨fun ⟨r, e, q⟩ => by cases e; exact q, fun q => ⟨_, rfl, q⟩⟩
theorem gos_ct : GoS mCt ρ st Q = Q (.ct ρ st) := by
  apply propext
  exact ⟨fun ⟨r, e, q⟩ => by cases e; exact q, fun q => ⟨_, rfl, q⟩⟩
theorem gos_retN : GoS mRetN ρ st Q = Q (.rt .non st) := by
  apply propext
  exact ⟨fun ⟨r, e, q⟩ => by cases e; exact q, fun q => ⟨_, rfl, q⟩⟩
theorem gos_if (c : Rho → M Bool) (a b : MS) : GoS (mIfS c a b) ρ st Q = Go (c ρ) st (kS ρ (fun k st' => GoS (if k = true then a else b) ρ st' Q) Q) := by
  unfold GoS mIfS
  rw [gos_bind]
  congr 1
  funext r
  cases r with
  | ok k s => cases k <;> rfl
  | ex c s => rfl
theorem gos_asg (i : Nat) (m : Rho → M D) : GoS (mAsg (.nm i) m) ρ st Q = Go (m ρ) st (kS ρ (fun d st' => Q (.nx (ρ.set i (some d)) st')) Q) := by
  unfold GoS mAsg
  rw [gos_bind]
  congr 1
  funext r
  cases r with
  | ok k s => unfold kS; apply propext; simp [asg]
  | ex c s => rfl
theorem gos_asgT (t : Tg) (m : Rho → M D) : GoS (mAsg t m) ρ st Q = Go (m ρ) st (kS ρ (fun d st' => ∃ ρ', asg t d ρ = some ρ' ∧ Q (.nx ρ' st')) Q) := by
  unfold GoS mAsg
  rw [gos_bind]
  congr 1
  funext r
  cases r with
  | ok k s =>
    unfold kS
    apply propext
    cases e : asg t k ρ <;> simp [e]
  | ex c s => rfl
theorem gos_ret (m : Rho → M D) : GoS (mRet m) ρ st Q = Go (m ρ) st (kS ρ (fun d st' => Q (.rt d st')) Q) := by
  unfold GoS mRet
  rw [gos_bind]
  congr 1
  funext r
  cases r with
  | ok k s => unfold kS; apply propext; simp
  | ex c s => rfl
theorem gos_drop (m : Rho → M D) : GoS (mDrop m) ρ st Q = Go (m ρ) st (kS ρ (fun d st' => Q (.nx ρ st')) Q) := by
  unfold GoS mDrop
  rw [gos_bind]
  congr 1
  funext r
  cases r with
  | ok k s => unfold kS; apply propext; simp
  | ex c s => rfl
theorem gos_par (i j : Nat) (a : Rho → M (List D)) : GoS (mPar i j a) ρ st Q = Go (a ρ) st (kS ρ (fun ds st' => ∃ x y, ds = [x, y] ∧ Q (.nx ((ρ.set i (some x)).set j (some y)) st')) Q) := by
  unfold GoS mPar
  rw [gos_bind]
  congr 1
  funext r
  cases r with
  | ok k s =>
    unfold kS
    apply propext
    constructor
    · rintro ⟨r, e, q⟩
      split at e
      · cases e; exact ⟨_, _, rfl, q⟩
      · cases e
    · rintro ⟨x, y, rfl, q⟩
      exact ⟨_, rfl, q⟩
  | ex c s => rfl
theorem gos_for (t : Tg) (it : Rho → M (List D)) (b : MS) : GoS (mFor t it b) ρ st Q = Go (it ρ) st (kS ρ (fun ds st' => GoS (forL t b ds) ρ st' Q) Q) := by
  unfold GoS mFor
  rw [gos_bind]
/-- a loop by an invariant (no break, no continue, no return but by Q) -/
theorem for_inv {t : Tg} {b : MS} (Iv : List D → Rho → Sto → Prop) : ∀ (ds : List D) (ρ : Rho) (st : Sto), Iv ds ρ st → (∀ ρ st, Iv [] ρ st → Q (.nx ρ st)) →
    (∀ d ds ρ st, Iv (d :: ds) ρ st → ∃ ρ1, asg t d ρ = some ρ1 ∧ GoS b ρ1 st (fun r => match r with
      | .nx ρ' st' => Iv ds ρ' st'
      | .ct ρ' st' => Iv ds ρ' st'
      | .bk ρ' st' => Q (.nx ρ' st')
      | .rt d st' => Q (.rt d st')
      | .ex c ρ' st' => Q (.ex c ρ' st'))) → GoS (forL t b ds) ρ st Q
  | [], ρ, st, h, h0, hs => ⟨_, rfl, h0 ρ st h⟩
  | d :: ds, ρ, st, h, h0, hs => by
    obtain ⟨ρ1, e, r, hr, hq⟩ := hs d ds ρ st h
    unfold GoS forL
    rw [e]
    simp only
    rw [hr]
    cases r with
    | nx ρ' st' => exact for_inv Iv ds ρ' st' hq h0 hs
    | ct ρ' st' => exact for_inv Iv ds ρ' st' hq h0 hs
    | bk ρ' st' => exact ⟨_, rfl, hq⟩
    | rt d st' => exact ⟨_, rfl, hq⟩
    | ex c ρ' st' => exact ⟨_, rfl, hq⟩
theorem gos_setIx (o i e : Rho → M D) : GoS (mSetIx o i e) ρ st Q = Go (e ρ) st (kS ρ (fun v s1 => Go (o ρ) s1 (kS ρ (fun x s2 => Go (i ρ) s2 (kS ρ (fun y s3 => ∃ s4, setIx x y v s3 = some s4 ∧ Q (.nx ρ s4)) Q)) Q)) Q) := by
  unfold GoS mSetIx
  rw [gos_bind]
  congr 1
  funext r
  cases r with
  | ex c s => rfl
  | ok v s1 =>
    show (∃ r, bindS (o ρ) ρ _ s1 = some r ∧ Q r) = _
    rw [gos_bind]
    show _ = Go (o ρ) s1 _
    congr 1
    funext r
    cases r with
    | ex c s => rfl
    | ok x s2 =>
      show (∃ r, bindS (i ρ) ρ _ s2 = some r ∧ Q r) = _
      rw [gos_bind]
      show _ = Go (i ρ) s2 _
      congr 1
      funext r
      cases r with
      | ex c s => rfl
      | ok y s3 =>
        unfold kS
        apply propext
        cases q : setIx x y v s3 <;> simp [q]
theorem set_cell (n : Nat) (k : Int) (v : D) (l : List D) (h : st[n]? = some (.lst l)) : setIx (.cell n) (.int k) v st = (ixN l.length k).map fun j => st.set n (.lst (l.set j v)) := by
  unfold setIx
  simp only [h]
  cases ixN l.length k <;> rfl

theorem gos_cons {call : Nat → List D → M D} {gl : List (Str × D)} (s : S) (l : List S) : GoS (evSs call gl (s :: l)) ρ st Q = GoS (evS call gl s) ρ st (kQ (fun ρ' st' => GoS (evSs call gl l) ρ' st' Q) Q) := by
  have e : evSs call gl (s :: l) = mSeq (evS call gl s) (evSs call gl l) := by conv => lhs; unfold evSs
  rw [e, gos_seq]
theorem gos_nil {call : Nat → List D → M D} {gl : List (Str × D)} : GoS (evSs call gl []) ρ st Q = Q (.nx ρ st) := by
  unfold evSs
  exact gos_next

/-! ### operators -/
variable {R : Res D → Prop}
theorem go_fun {m : M α} {d : α} {R : Res α → Prop} (h : m st = some (.ok d st)) : Go m st R = R (.ok d st) := by
  apply propext
  exact ⟨fun ⟨r, e, q⟩ => by rw [h] at e; cases e; exact q, fun q => ⟨_, h, q⟩⟩
theorem go_ite {c : Prop} [Decidable c] {d : α} {m : M α} {R : Res α → Prop} (h : m st = (if c then M.ret d else M.no) st) : Go m st R = (c ∧ R (.ok d st)) := by
  apply propext
  unfold Go
  rw [h]
  by_cases hc : c
  · simp [hc, M.ret]
  · simp [hc, M.no]
theorem go_add (a b : Int) : Go (binF .Add (.int a) (.int b)) st R = R (.ok (.int (a + b)) st) := go_fun rfl
theorem go_addT (a b : List D) : Go (binF .Add (.tup a) (.tup b)) st R = (a.length + b.length ≤ LIM ∧ R (.ok (.tup (a ++ b)) st)) := go_ite rfl
theorem go_addL (a b : List D) : Go (binF .Add (.lst a) (.lst b)) st R = (a.length + b.length ≤ LIM ∧ R (.ok (.lst (a ++ b)) st)) := go_ite rfl
theorem go_sub (a b : Int) : Go (binF .Sub (.int a) (.int b)) st R = R (.ok (.int (a - b)) st) := go_fun rfl
theorem go_mul (a b : Int) : Go (binF .Mult (.int a) (.int b)) st R = (cMul a b = true ∧ R (.ok (.int (a * b)) st)) := go_ite rfl
theorem go_mod (a b : Int) : Go (binF .Mod (.int a) (.int b)) st R = (cMod a b = true ∧ R (.ok (.int (a % b)) st)) := go_ite rfl
theorem go_div (a b : Int) : Go (binF .FloorDiv (.int a) (.int b)) st R = (cDiv a b = true ∧ R (.ok (.int (a / b)) st)) := go_ite rfl
theorem go_pow (a b : Int) : Go (binF .Pow (.int a) (.int b)) st R = (cPow a b = true ∧ R (.ok (.int (a ^ b.toNat)) st)) := go_ite rfl
theorem go_shl (a b : Int) : Go (binF .LShift (.int a) (.int b)) st R = (cPow a b = true ∧ R (.ok (.int (a * 2 ^ b.toNat)) st)) := go_ite rfl
theorem go_lt (a b : Int) : Go (cmpF .Lt (.int a) (.int b)) st R = R (.ok (.bl (decide (a < b))) st) := go_fun rfl
theorem go_le (a b : Int) : Go (cmpF .LtE (.int a) (.int b)) st R = R (.ok (.bl (decide (a ≤ b))) st) := go_fun rfl
theorem go_gt (a b : Int) : Go (cmpF .Gt (.int a) (.int b)) st R = R (.ok (.bl (decide (b < a))) st) := go_fun rfl
theorem go_ge (a b : Int) : Go (cmpF .GtE (.int a) (.int b)) st R = R (.ok (.bl (decide (b ≤ a))) st) := go_fun rfl
theorem go_eq (a b : Int) : Go (cmpF .Eq (.int a) (.int b)) st R = R (.ok (.bl (decide (a = b))) st) := go_fun rfl
theorem go_eqS (a b : Str) : Go (cmpF .Eq (.str a) (.str b)) st R = R (.ok (.bl (decide (a = b))) st) := go_fun rfl
theorem go_neS (a b : Str) : Go (cmpF .NotEq (.str a) (.str b)) st R = R (.ok (.bl (!decide (a = b))) st) := go_fun rfl
theorem go_ne (a b : Int) : Go (cmpF .NotEq (.int a) (.int b)) st R = R (.ok (.bl (!decide (a = b))) st) := go_fun rfl
theorem go_eqB (a b : Bool) : Go (cmpF .Eq (.bl a) (.bl b)) st R = R (.ok (.bl (decide (a = b))) st) := go_fun rfl
theorem go_eqT0 (a : List D) : Go (cmpF .Eq (.tup a) (.tup [])) st R = R (.ok (.bl a.isEmpty) st) := go_fun (by cases a <;> rfl)
theorem go_bl (b : Bool) {R : Res Bool → Prop} : Go (isBl (.bl b)) st R = R (.ok b st) := go_fun rfl
theorem go_tru (b : Bool) {R : Res Bool → Prop} : Go (truF (.bl b)) st R = R (.ok b st) := go_fun rfl
theorem go_ixT (l : List D) (i : Int) : Go (ixF (.tup l) (.int i)) st R = ∃ d, L2.atI l i = some d ∧ R (.ok d st) := by
  have : Go (ixF (.tup l) (.int i)) st R = Go (M.opt (L2.atI l i)) st R := rfl
  rw [this, go_opt]
theorem go_ixL (l : List D) (i : Int) : Go (ixF (.lst l) (.int i)) st R = ∃ d, L2.atI l i = some d ∧ R (.ok d st) := by
  have : Go (ixF (.lst l) (.int i)) st R = Go (M.opt (L2.atI l i)) st R := rfl
  rw [this, go_opt]
theorem go_ixR (l : List D) (i : Int) : Go (ixF (.ro l) (.int i)) st R = ∃ d, L2.atI l i = some d ∧ R (.ok d st) := by
  have : Go (ixF (.ro l) (.int i)) st R = Go (M.opt (L2.atI l i)) st R := rfl
  rw [this, go_opt]
theorem go_ixC (n : Nat) (l : List D) (i : Int) (h : st[n]? = some (.lst l)) : Go (ixF (.cell n) (.int i)) st R = ∃ d, L2.atI l i = some d ∧ R (.ok d st) := by
  have e : ixF (.cell n) (.int i) st = M.opt (L2.atI l i) st := by
    unfold ixF sees2 D.see
    simp only [h]
    rfl
  have : Go (ixF (.cell n) (.int i)) st R = Go (M.opt (L2.atI l i)) st R := by
    unfold Go
    rw [e]
  rw [this, go_opt]
theorem go_lenT (l : List D) : Go (Prim.f .len [.tup l]) st R = R (.ok (.int l.length) st) := go_fun rfl
theorem go_lenL (l : List D) : Go (Prim.f .len [.lst l]) st R = R (.ok (.int l.length) st) := go_fun rfl
theorem go_lenR (l : List D) : Go (Prim.f .len [.ro l]) st R = R (.ok (.int l.length) st) := go_fun rfl
theorem go_listT (l : List D) : Go (Prim.f .list [.tup l]) st R = R (.ok (.lst l) st) := go_fun rfl
theorem go_max2 (a b : Int) : Go (Prim.f .max2 [.int a, .int b]) st R = R (.ok (.int (max a b)) st) := go_fun rfl
theorem go_min2 (a b : Int) : Go (Prim.f .min2 [.int a, .int b]) st R = R (.ok (.int (min a b)) st) := go_fun rfl
/-- isinstance of whole data -/
def isaB (d : D) (n : String) : Bool := match d.tyN with
  | some t => subT t n
  | none => false
theorem go_isa (d : D) (n : String) (h : (d.tyN).isSome = true) (hn : n ∈ tyNames) : Go (Prim.f .isa [d, .ty n]) st R = R (.ok (.bl (isaB d n)) st) := by
  refine go_fun ?_
  show isaF [d, .ty n] st = _
  unfold isaF isaB
  cases d <;> first | (simp [D.tyN, D.see, hn, M.ret]; done) | (cases h)
theorem go_repr (d : D) (h : d.showB = true) : Go (Prim.f .repr [d]) st R = R (.ok (.str d.py.shown) st) := by
  refine go_fun ?_
  show one1 reprF [d] st = _
  have hs : d.see st = some d := by
    cases d <;> first | rfl | (unfold D.showB D.solid at h; cases h)
  unfold one1
  simp only [hs]
  unfold reprF
  rw [if_pos h]
  rfl
end
section
variable {T : List Fn} {gl : List (Str × D)} {st : Sto}
theorem go_call {n i : Nat} {f : Fn} {ds : List D} {R : Res D → Prop} (hf : T[i]? = some f) (hl : ds.length = f.ps.length) :
    Go (callD T gl (n + 1) i ds) st R = GoS (evSs (callD T gl n) gl f.body) (ds.map some ++ List.replicate (f.N.length - ds.length) none) st (kC R) := by
  apply propext
  unfold Go GoS
  conv => lhs; unfold callD
  rw [hf]
  simp only [hl, if_true]
  rw [← hl]
  cases e : evSs (callD T gl n) gl f.body (ds.map some ++ List.replicate (f.N.length - ds.length) none) st with
  | none => simp
  | some r => cases r <;> simp [kC]
end
theorem go_inT {st : Sto} {R : Res D → Prop} (w : Str) (l : List D) (h : l.all D.scal = true) : Go (cmpF .In (.str w) (.tup l)) st R = R (.ok (.bl (l.any fun z => PyData.eqv z.py (D.str w).py)) st) := by
  refine go_fun ?_
  show M.opt ((if (((D.str w).scal && l.all D.scal) || ((D.str w).eqable && (D.lst l).eqable)) = true then some (l.any fun z => PyData.eqv z.py (D.str w).py) else none).map fun b => D.bl (if false then !b else b)) st = _
  rw [if_pos (by rw [h]; rfl)]
  rfl
theorem go_ninL {st : Sto} {R : Res D → Prop} (w : Str) (l : List D) (h : l.all D.scal = true) : Go (cmpF .NotIn (.str w) (.lst l)) st R = R (.ok (.bl (!l.any fun z => PyData.eqv z.py (D.str w).py)) st) := by
  refine go_fun ?_
  show M.opt ((if (((D.str w).scal && l.all D.scal) || ((D.str w).eqable && (D.lst l).eqable)) = true then some (l.any fun z => PyData.eqv z.py (D.str w).py) else none).map fun b => D.bl (if true then !b else b)) st = _
  rw [if_pos (by rw [h]; rfl)]
  rfl
/-- by a truth -/
def ifB (k : Bool) (A B : Prop) : Prop := match k with
  | true => A
  | false => B
theorem ifB_t {A B : Prop} : ifB true A B = A := rfl
theorem ifB_f {A B : Prop} : ifB false A B = B := rfl
theorem ifB_same {k : Bool} {A : Prop} : ifB k A A = A := by cases k <;> rfl
theorem go_if {α : Type} {k : Bool} {a b : M α} {st : Sto} {R : Res α → Prop} : Go (if k = true then a else b) st R = ifB k (Go a st R) (Go b st R) := by cases k <;> rfl
theorem gos_ifB {k : Bool} {a b : MS} {ρ : Rho} {st : Sto} {Q : SR → Prop} : GoS (if k = true then a else b) ρ st Q = ifB k (GoS a ρ st Q) (GoS b ρ st Q) := by cases k <;> rfl
theorem atI_nat {α : Type} (l : List α) (k : Nat) (h : k < l.length) : L2.atI l (k : Int) = l[k]? := by
  unfold L2.atI ixN
  have h1 : ¬ ((k : Int) < 0) := by omega
  have h2 : (k : Int) < (l.length : Int) := by omega
  simp [h1, h2]
theorem atI0 {α : Type} (a : α) (l : List α) : L2.atI (a :: l) 0 = some a := by
  rw [show (0 : Int) = ((0 : Nat) : Int) from rfl, atI_nat _ 0 (by simp)]
  rfl
theorem atI1 {α : Type} (a b : α) (l : List α) : L2.atI (a :: b :: l) 1 = some b := by
  rw [show (1 : Int) = ((1 : Nat) : Int) from rfl, atI_nat _ 1 (by simp)]
  rfl
theorem atI2 {α : Type} (a b c : α) (l : List α) : L2.atI (a :: b :: c :: l) 2 = some c := by
  rw [show (2 : Int) = ((2 : Nat) : Int) from rfl, atI_nat _ 2 (by simp)]
  rfl
end MC

set_option maxHeartbeats 4000000
/-! MC, part 19: sizes of data, for repr. -/
namespace MC
open PySem PySem.Spec PyProof.Rows L2

mutual
def D.wt : D → Nat
  | .tup l => D.wtL l + 1
  | .lst l => D.wtL l + 1
  | .ro l => D.wtL l + 1
  | .dic ks l => D.wtL l + ks.length + 1
  | _ => 1
def D.wtL : List D → Nat
  | [] => 0
  | d :: ds => d.wt + D.wtL ds
end
mutual
def D.dep : D → Nat
  | .tup l => D.depL l + 1
  | .lst l => D.depL l + 1
  | .ro l => D.depL l + 1
  | .dic _ l => D.depL l + 1
  | _ => 0
def D.depL : List D → Nat
  | [] => 0
  | d :: ds => max d.dep (D.depL ds)
end
def kfine (M : Nat) : Key → Bool
  | .inl i => decide (i.natAbs ≤ M)
  | .inr x => decide ((reprText x).length ≤ 90)
mutual
def D.fine (M : Nat) : D → Bool
  | .non => true
  | .bl _ => true
  | .int i => decide (i.natAbs ≤ M)
  | .str x => decide ((reprText x).length ≤ 90)
  | .tup l => D.fineL M l
  | .lst l => D.fineL M l
  | .ro l => D.fineL M l
  | .dic ks l => decide (ks.length = l.length) && (ks.all (kfine M) && D.fineL M l)
  | .cell _ => false
  | .ty _ => false
def D.fineL (M : Nat) : List D → Bool
  | [] => true
  | d :: ds => d.fine M && D.fineL M ds
end
theorem andB {a b : Bool} (h : (a && b) = true) : a = true ∧ b = true := by rwa [Bool.and_eq_true] at h
theorem slen (a b : Str) : (a ++ b).length = a.length + b.length := Str.length_append a b
theorem D.wt_pos : ∀ d : D, 1 ≤ d.wt
  | .non => by unfold D.wt; omega
  | .bl _ => by unfold D.wt; omega
  | .int _ => by unfold D.wt; omega
  | .str _ => by unfold D.wt; omega
  | .tup _ => by unfold D.wt; omega
  | .lst _ => by unfold D.wt; omega
  | .ro _ => by unfold D.wt; omega
  | .dic _ _ => by unfold D.wt; omega
  | .cell _ => by unfold D.wt; omega
  | .ty _ => by unfold D.wt; omega
theorem textFrom_up : ∀ (ts : List Str) (k : Nat) (acc : Str), (PySem.textFrom k acc ts).length ≤ acc.length + PySem.piled ts
  | [], k, acc => by show acc.length ≤ _; omega
  | t :: r, k, acc => by
    have ih := textFrom_up r (k + 1) (acc ++ (if k > 0 then ", " else "" : String) ++ t)
    have e : (acc ++ (if k > 0 then ", " else "" : String) ++ t).length = acc.length + (if k > 0 then 2 else 0) + t.length := by
      rw [slen, slen]
      split <;> rfl
    rw [e] at ih
    rw [PySem.piled_cons]
    show (PySem.textFrom (k + 1) _ r).length ≤ _
    have : (if k > 0 then 2 else 0 : Nat) ≤ 2 := by split <;> omega
    omega
theorem join_up (ts : List Str) : (Str.join ", " ts).length ≤ PySem.piled ts := by
  by_cases h : ts = []
  · subst h
    exact Nat.le_refl _
  · have := PySem.join_length_add ts h
    omega
theorem list_up (ts : List Str) : (PySem.listText ts).length ≤ PySem.piled ts + 2 := by
  unfold PySem.listText
  rw [slen]
  have h := textFrom_up ts 0 ("[" : Str)
  have e1 : (("[" : String) : Str).length = 1 := rfl
  have e2 : (("]" : String) : Str).length = 1 := rfl
  omega
theorem tup_up (ts : List Str) : (PySem.tupleText ts).length ≤ PySem.piled ts + 3 := by
  unfold PySem.tupleText
  rw [slen, slen]
  have h := join_up ts
  have e1 : (("(" : String) : Str).length = 1 := rfl
  have e2 : (((if ts.length == 1 then ",)" else ")" : String)) : Str).length ≤ 2 := by
    split
    · exact Nat.le_refl _
    · exact Nat.le_succ _
  omega
theorem dict_up (ts : List Str) : (PySem.dictText ts).length ≤ PySem.piled ts + 2 := by
  unfold PySem.dictText
  rw [slen, slen]
  have h := join_up ts
  have e1 : (("{" : String) : Str).length = 1 := rfl
  have e2 : (("}" : String) : Str).length = 1 := rfl
  omega
theorem int_up {M : Nat} (hM : M < 10 ^ 18) {i : Int} (h : i.natAbs ≤ M) : (Str.ofString (toString i)).length ≤ 19 ∧ i.natAbs.log2 < 1920 := by
  refine ⟨?_, ?_⟩
  · rw [PySem.ofString_length]
    exact PySem.int_text_length_le10 (k := 18) (by decide) (Nat.lt_of_le_of_lt h hM)
  · have h2 : i.natAbs < 2 ^ 64 := Nat.lt_of_le_of_lt h (Nat.lt_trans hM (by decide))
    by_cases h0 : i.natAbs = 0
    · rw [h0]
      decide
    · have := (Nat.log2_lt h0).mpr h2
      omega
theorem key_up {M : Nat} (hM : M < 10 ^ 18) {k : Key} (h : kfine M k = true) : (keyPy k).shown.length ≤ 90 ∧ (keyPy k).showable = true ∧ (keyPy k).depth = 0 := by
  cases k with
  | inl i =>
    obtain ⟨h1, h2⟩ := int_up hM (of_decide_eq_true h)
    unfold keyPy PyData.shown PyData.showable PyData.depth
    exact ⟨by omega, decide_eq_true h2, rfl⟩
  | inr x =>
    unfold keyPy PyData.shown PyData.showable PyData.depth
    exact ⟨of_decide_eq_true h, rfl, rfl⟩
mutual
theorem fine_ok {M : Nat} (hM : M < 10 ^ 18) : ∀ d : D, d.fine M = true → d.solid = true ∧ d.py.showable = true ∧ d.py.shown.length + 2 ≤ 100 * d.wt ∧ d.py.depth ≤ d.dep
  | .non, h => by
    unfold D.py PyData.shown PyData.showable PyData.depth D.wt D.dep D.solid
    exact ⟨rfl, rfl, by decide, Nat.le_refl _⟩
  | .bl b, h => by
    unfold D.py PyData.shown PyData.showable PyData.depth D.wt D.dep D.solid
    refine ⟨rfl, rfl, ?_, Nat.le_refl _⟩
    cases b <;> decide
  | .int i, h => by
    unfold D.fine at h
    obtain ⟨h1, h2⟩ := int_up hM (of_decide_eq_true h)
    unfold D.py PyData.shown PyData.showable PyData.depth D.wt D.dep D.solid
    exact ⟨rfl, decide_eq_true h2, by omega, Nat.le_refl _⟩
  | .str x, h => by
    unfold D.fine at h
    have h1 := of_decide_eq_true h
    unfold D.py PyData.shown PyData.showable PyData.depth D.wt D.dep D.solid
    exact ⟨rfl, rfl, by omega, Nat.le_refl _⟩
  | .tup l, h => by
    unfold D.fine at h
    obtain ⟨h1, h2, h3, h4⟩ := fineL_ok hM l h
    unfold D.py PyData.shown PyData.showable PyData.depth D.wt D.dep D.solid
    have := tup_up (PyData.shownAll (D.pyL l))
    exact ⟨h1, h2, by omega, by omega⟩
  | .lst l, h => by
    unfold D.fine at h
    obtain ⟨h1, h2, h3, h4⟩ := fineL_ok hM l h
    unfold D.py PyData.shown PyData.showable PyData.depth D.wt D.dep D.solid
    have := list_up (PyData.shownAll (D.pyL l))
    exact ⟨h1, h2, by omega, by omega⟩
  | .ro l, h => by
    unfold D.fine at h
    obtain ⟨h1, h2, h3, h4⟩ := fineL_ok hM l h
    unfold D.py PyData.shown PyData.showable PyData.depth D.wt D.dep D.solid
    have := list_up (PyData.shownAll (D.pyL l))
    exact ⟨h1, h2, by omega, by omega⟩
  | .dic ks l, h => by
    unfold D.fine at h
    obtain ⟨e0, h⟩ := andB h
    obtain ⟨hk, hl⟩ := andB h
    obtain ⟨h1, _, _, _⟩ := fineL_ok hM l hl
    obtain ⟨h2, h3, h4⟩ := fineK_ok hM l ks hl (of_decide_eq_true e0) hk
    unfold D.py PyData.shown PyData.showable PyData.depth D.wt D.dep D.solid
    have := dict_up (PyData.shownKv ((ks.map keyPy).zip (D.pyL l)))
    exact ⟨h1, h2, by omega, by omega⟩
  | .cell _, h => by unfold D.fine at h; cases h
  | .ty _, h => by unfold D.fine at h; cases h
theorem fineL_ok {M : Nat} (hM : M < 10 ^ 18) : ∀ l : List D, D.fineL M l = true → D.solidL l = true ∧ PyData.showableAll (D.pyL l) = true ∧ PySem.piled (PyData.shownAll (D.pyL l)) ≤ 100 * D.wtL l ∧ PyData.depthAll (D.pyL l) ≤ D.depL l
  | [], h => by
    unfold D.solidL D.pyL PyData.showableAll PyData.shownAll PyData.depthAll D.wtL D.depL
    exact ⟨rfl, rfl, Nat.le_refl _, Nat.le_refl _⟩
  | d :: ds, h => by
    unfold D.fineL at h
    obtain ⟨h1, h2⟩ := andB h
    obtain ⟨a1, a2, a3, a4⟩ := fine_ok hM d h1
    obtain ⟨b1, b2, b3, b4⟩ := fineL_ok hM ds h2
    unfold D.solidL D.pyL PyData.showableAll PyData.shownAll PyData.depthAll D.wtL D.depL
    rw [a1, b1, a2, b2, PySem.piled_cons]
    exact ⟨rfl, rfl, by omega, by omega⟩
theorem fineK_ok {M : Nat} (hM : M < 10 ^ 18) : ∀ (l : List D) (ks : List Key), D.fineL M l = true → ks.length = l.length → ks.all (kfine M) = true →
    PyData.showableKv ((ks.map keyPy).zip (D.pyL l)) = true ∧ PySem.piled (PyData.shownKv ((ks.map keyPy).zip (D.pyL l))) ≤ 100 * (D.wtL l + ks.length) ∧ PyData.depthKv ((ks.map keyPy).zip (D.pyL l)) ≤ D.depL l
  | [], ks, h, hl, hk => by
    cases ks with
    | nil =>
      unfold D.pyL
      exact ⟨by rfl, by simp [PyData.shownKv, PySem.piled], by simp [PyData.depthKv]⟩
    | cons _ _ => cases hl
  | d :: ds, ks, h, hl, hk => by
    cases ks with
    | nil => cases hl
    | cons k ks =>
      unfold D.fineL at h
      obtain ⟨h1, h2⟩ := andB h
      rw [List.all_cons] at hk
      obtain ⟨k1, k2⟩ := andB hk
      obtain ⟨a1, a2, a3, a4⟩ := fine_ok hM d h1
      obtain ⟨b2, b3, b4⟩ := fineK_ok hM ds ks h2 (by simpa using hl) k2
      obtain ⟨c1, c2, c3⟩ := key_up hM k1
      unfold D.pyL
      rw [List.map_cons, List.zip_cons_cons]
      unfold PyData.showableKv PyData.shownKv PyData.depthKv D.wtL D.depL
      rw [a2, b2, c2, PySem.piled_cons, slen, slen, List.length_cons]
      have e : ((": " : String) : Str).length = 2 := rfl
      exact ⟨rfl, by omega, by omega⟩
end
theorem showB_of {M : Nat} (hM : M < 10 ^ 18) {d : D} (h : d.fine M = true) (hw : d.wt ≤ 10000) (hd : d.dep ≤ 60) : d.showB = true := by
  obtain ⟨h1, h2, h3, h4⟩ := fine_ok hM d h
  unfold D.showB
  rw [h1, h2, decide_eq_true (show d.py.shown.length ≤ LIM by unfold LIM; omega), decide_eq_true (show d.py.depth ≤ 60 by omega)]
  rfl
/-! lists of data -/
theorem wtL_cons (d : D) (l : List D) : D.wtL (d :: l) = d.wt + D.wtL l := by conv => lhs; unfold D.wtL
theorem depL_cons (d : D) (l : List D) : D.depL (d :: l) = max d.dep (D.depL l) := by conv => lhs; unfold D.depL
theorem fineL_cons {M : Nat} (d : D) (l : List D) : D.fineL M (d :: l) = (d.fine M && D.fineL M l) := by conv => lhs; unfold D.fineL
theorem wtL_append : ∀ a b : List D, D.wtL (a ++ b) = D.wtL a + D.wtL b
  | [], b => by simp [D.wtL]
  | d :: a, b => by
    rw [List.cons_append, wtL_cons, wtL_cons, wtL_append a b]
    omega
theorem depL_append : ∀ a b : List D, D.depL (a ++ b) = max (D.depL a) (D.depL b)
  | [], b => by simp [D.depL]
  | d :: a, b => by
    rw [List.cons_append, depL_cons, depL_cons, depL_append a b]
    omega
theorem fineL_append {M : Nat} : ∀ a b : List D, D.fineL M (a ++ b) = (D.fineL M a && D.fineL M b)
  | [], b => by simp [D.fineL]
  | d :: a, b => by
    rw [List.cons_append, fineL_cons, fineL_cons, fineL_append a b, Bool.and_assoc]
theorem fineL_iff {M : Nat} : ∀ {l : List D}, D.fineL M l = true ↔ ∀ d ∈ l, d.fine M = true
  | [] => by simp [D.fineL]
  | d :: l => by
    unfold D.fineL
    rw [Bool.and_eq_true, fineL_iff]
    simp
theorem dep_mem {d : D} : ∀ {l : List D}, d ∈ l → d.dep ≤ D.depL l
  | e :: l, h => by
    unfold D.depL
    rcases List.mem_cons.mp h with rfl | h
    · omega
    · have := dep_mem h
      omega
theorem wt_mem {d : D} : ∀ {l : List D}, d ∈ l → d.wt ≤ D.wtL l
  | e :: l, h => by
    unfold D.wtL
    rcases List.mem_cons.mp h with rfl | h
    · omega
    · have := wt_mem h
      omega
theorem depL_le {k : Nat} : ∀ {l : List D}, (∀ d ∈ l, d.dep ≤ k) → D.depL l ≤ k
  | [], h => by unfold D.depL; omega
  | d :: l, h => by
    unfold D.depL
    have := h d List.mem_cons_self
    have := depL_le fun e he => h e (List.mem_cons_of_mem _ he)
    omega
mutual
theorem fine_mono {M M' : Nat} (hM : M ≤ M') : ∀ d : D, d.fine M = true → d.fine M' = true
  | .non, h => rfl
  | .bl b, h => by unfold D.fine; rfl
  | .int i, h => by
    unfold D.fine at h ⊢
    exact decide_eq_true (Nat.le_trans (of_decide_eq_true h) hM)
  | .str x, h => by unfold D.fine at h ⊢; exact h
  | .tup l, h => by unfold D.fine at h ⊢; exact fineL_mono hM l h
  | .lst l, h => by unfold D.fine at h ⊢; exact fineL_mono hM l h
  | .ro l, h => by unfold D.fine at h ⊢; exact fineL_mono hM l h
  | .dic ks l, h => by
    unfold D.fine at h ⊢
    obtain ⟨e0, h⟩ := andB h
    obtain ⟨hk, hl⟩ := andB h
    rw [e0, fineL_mono hM l hl, Bool.true_and, Bool.and_true, List.all_eq_true]
    intro k hk'
    have := List.all_eq_true.mp hk k hk'
    cases k with
    | inl i => exact decide_eq_true (Nat.le_trans (of_decide_eq_true this) hM)
    | inr x => exact this
  | .cell _, h => by unfold D.fine at h; cases h
  | .ty _, h => by unfold D.fine at h; cases h
theorem fineL_mono {M M' : Nat} (hM : M ≤ M') : ∀ l : List D, D.fineL M l = true → D.fineL M' l = true
  | [], h => by unfold D.fineL; rfl
  | d :: l, h => by
    unfold D.fineL at h ⊢
    obtain ⟨h1, h2⟩ := andB h
    rw [fine_mono hM d h1, fineL_mono hM l h2]
    rfl
end
theorem atI_mem {α : Type} (l : List α) (i : Int) (h0 : 0 ≤ i) (h1 : i < (l.length : Int)) : ∃ d, L2.atI l i = some d ∧ d ∈ l := by
  obtain ⟨k, rfl⟩ := Int.eq_ofNat_of_zero_le h0
  have hk : k < l.length := by omega
  exact ⟨l[k], by rw [atI_nat l k hk]; exact List.getElem?_eq_getElem hk, List.getElem_mem hk⟩
theorem len_wt : ∀ l : List D, l.length ≤ D.wtL l
  | [] => by simp
  | d :: l => by
    rw [wtL_cons, List.length_cons]
    have := len_wt l
    have := d.wt_pos
    omega
theorem cut_to (l : List D) (k : Nat) : cutD l none (some (k : Int)) = l.take k := by
  unfold cutD
  rw [HT.sIx_none, HT.sIx_nat, List.drop_zero, Nat.sub_zero]
  by_cases h : k ≤ l.length
  · rw [Nat.min_eq_left h]
  · rw [Nat.min_eq_right (by omega), List.take_of_length_le (Nat.le_refl _), List.take_of_length_le (by omega)]
theorem cut_from (l : List D) (k : Nat) : cutD l (some (k : Int)) none = l.drop k := by
  unfold cutD
  rw [HT.sIx_none, HT.sIx_nat]
  by_cases h : k ≤ l.length
  · rw [Nat.min_eq_left h, List.take_of_length_le (by simp)]
  · rw [Nat.min_eq_right (by omega), List.drop_of_length_le (Nat.le_refl _), List.drop_of_length_le (by omega)]
    simp
theorem cut_one (l : List D) (k : Nat) (h : k < l.length) : cutD l (some (k : Int)) (some ((k : Int) + 1)) = (l.drop k).take 1 := by
  unfold cutD
  have e : ((k : Int) + 1) = ((k + 1 : Nat) : Int) := by omega
  rw [e, HT.sIx_nat, HT.sIx_nat, Nat.min_eq_left (by omega), Nat.min_eq_left (by omega), Nat.add_sub_cancel_left]
theorem go_slT {st : Sto} {R : Res D → Prop} (l : List D) (lo hi : Option Int) : Go (slF (.tup l) lo hi) st R = R (.ok (.tup (cutD l lo hi)) st) := go_fun rfl
theorem go_rng1 {st : Sto} {R : Res (List D) → Prop} (j : Int) : Go (rng1F [.int j]) st R = ((-1000000 ≤ j ∧ j ≤ 1000000) ∧ R (.ok (rangeL 0 j.toNat) st)) := go_ite rfl
theorem go_part {st : Sto} {R : Res (Option Int) → Prop} (a : Rho → M D) (ρ : Rho) : Go (mPart a ρ) st R = Go (a ρ) st (kR (fun x s => ∃ i, x = .int i ∧ R (.ok (some i) s)) R) := by
  unfold mPart
  rw [go_bind]
  congr 1
  funext r
  cases r with
  | ex c s => rfl
  | ok x s =>
    unfold kR
    apply propext
    cases x <;> simp [go_ret, go_no]
theorem go_neg {st : Sto} {R : Res D → Prop} (a : Rho → M D) (ρ : Rho) : Go (mNeg a ρ) st R = Go (a ρ) st (kR (fun x s => ∃ i, x = .int i ∧ R (.ok (.int (-i)) s)) R) := by
  unfold mNeg
  rw [go_bind]
  congr 1
  funext r
  cases r with
  | ex c s => rfl
  | ok x s =>
    unfold kR
    apply propext
    cases x <;> simp [go_ret, go_no]
theorem go_revT {st : Sto} {R : Res D → Prop} (l : List D) : Go (M.opt (revB (.tup l))) st R = R (.ok (.tup l.reverse) st) := go_fun rfl
theorem take_drop_wt (l : List D) (k : Nat) : D.wtL (l.take k) + D.wtL (l.drop k) = D.wtL l := by
  rw [← wtL_append, List.take_append_drop]
theorem wtL_reverse : ∀ l : List D, D.wtL l.reverse = D.wtL l
  | [] => rfl
  | d :: l => by
    rw [List.reverse_cons, wtL_append, wtL_reverse l, wtL_cons, wtL_cons]
    simp [D.wtL]
    omega
theorem depL_sub {l l' : List D} (h : ∀ d ∈ l', d ∈ l) : D.depL l' ≤ D.depL l := depL_le fun d hd => dep_mem (h d hd)
theorem fineL_sub {M : Nat} {l l' : List D} (h : ∀ d ∈ l', d ∈ l) (f : D.fineL M l = true) : D.fineL M l' = true := fineL_iff.mpr fun d hd => fineL_iff.mp f d (h d hd)
end MC

set_option maxHeartbeats 0
namespace K30
open PySem PySem.Spec PyProof.Rows L2 MC
def b_is_whole : List S :=
   [.ret (.and [(.prim .isa [(.var 0), (.bty "int")]), (.not (.prim .isa [(.var 0), (.bty "bool")]))])]
def b_is_from_to : List S :=
   [.ret (.and [(.call 0 [(.var 0)]), (.chain .LtE .LtE (.var 1) (.var 0) (.var 2))])]
def b_is_shaped : List S :=
   [.ret (.and [(.prim .isa [(.var 0), (.bty "tuple")]), (.cmp .Eq (.prim .len [(.var 0)]) (.var 2)), (.prim .isa [(.ix (.var 0) (.con (.int 0))), (.bty "str")]), (.cmp .Eq (.ix (.var 0) (.con (.int 0))) (.var 1))])]
def b_is_two : List S :=
   [.ret (.and [(.prim .isa [(.var 0), (.bty "tuple")]), (.cmp .Eq (.prim .len [(.var 0)]) (.con (.int 3))), (.prim .isa [(.ix (.var 0) (.con (.int 0))), (.bty "str")]), (.cmp .In (.ix (.var 0) (.con (.int 0))) (.glo "WORDS"))])]
def b_is_input : List S :=
   [.ret (.and [(.call 2 [(.var 0), (.con (.str "in")), (.con (.int 2))]), (.call 1 [(.ix (.var 0) (.con (.int 1))), (.con (.int 0)), (.glo "MOST_INPUT")])])]
def b_is_leaf : List S :=
   [.ret (.or [(.call 1 [(.var 0), (.con (.int 0)), (.glo "MOST_LEAF")]), (.call 4 [(.var 0)])])]
def b_inner_of : List S :=
   [.ife (.call 5 [(.var 0)]) [.ret (.con (.int 0))] [],
    .ife (.call 2 [(.var 0), (.con (.str "not")), (.con (.int 2))]) [.ret (.bin .Add (.con (.int 1)) (.call 6 [(.ix (.var 0) (.con (.int 1)))]))] [],
    .ife (.call 3 [(.var 0)]) [.ret (.bin .Add (.bin .Add (.con (.int 1)) (.call 6 [(.ix (.var 0) (.con (.int 1)))])) (.call 6 [(.ix (.var 0) (.con (.int 2)))]))] [],
    .ret (.bin .Add (.glo "MOST_INNER") (.con (.int 1)))]
def b_is_tree : List S :=
   [.ret (.cmp .LtE (.call 6 [(.var 0)]) (.glo "MOST_INNER"))]
def b_law_cell_at : List S :=
   [.ife (.cmp .Lt (.var 1) (.prim .len [(.var 0)])) [.ret (.ix (.var 0) (.var 1))] [],
    .ret (.con (.int 0))]
def b_law_pen : List S :=
   [.ret (.lstC [(.prim .max2 [(.con (.int 0)), (.bin .Sub (.var 0) (.bin .Pow (.con (.int 10)) (.con (.int 18))))]), (.bin .Mod (.var 0) (.con (.int 1000000007))), (.con (.int 0))])]
def b_law_draw : List S :=
   [.ife (.cmp .Gt (.ix (.var 0) (.con (.int 0))) (.con (.int 0))) [.asg (.nm 3) (.bin .Mod (.ix (.var 0) (.con (.int 0))) (.var 1)), .setIx (.var 0) (.con (.int 0)) (.bin .FloorDiv (.ix (.var 0) (.con (.int 0))) (.var 1)), .ret (.var 3)] [],
    .setIx (.var 0) (.con (.int 2)) (.bin .Add (.ix (.var 0) (.con (.int 2))) (.con (.int 1))),
    .asg (.nm 2) (.bin .Mod (.bin .Mult (.bin .Add (.ix (.var 0) (.con (.int 1))) (.bin .Mult (.con (.int 17)) (.ix (.var 0) (.con (.int 2))))) (.bin .Add (.con (.int 69621)) (.bin .Mult (.con (.int 2)) (.ix (.var 0) (.con (.int 2)))))) (.con (.int 2147483647))),
    .asg (.nm 2) (.bin .Mod (.bin .Add (.bin .Add (.bin .Mult (.var 2) (.var 2)) (.bin .Mult (.con (.int 40503)) (.ix (.var 0) (.con (.int 2))))) (.con (.int 5))) (.con (.int 2147483629))),
    .ret (.bin .Mod (.bin .FloorDiv (.bin .Mod (.bin .Mult (.var 2) (.con (.int 48271))) (.con (.int 2147483647))) (.con (.int 32))) (.var 1))]
def b_law_pick : List S :=
   [.ret (.ix (.var 1) (.call 10 [(.var 0), (.prim .len [(.var 1)])]))]
def b_law_whole : List S :=
   [.ret (.and [(.prim .isa [(.var 0), (.bty "int")]), (.not (.prim .isa [(.var 0), (.bty "bool")]))])]
def b_law_within : List S :=
   [.ret (.and [(.call 12 [(.var 0)]), (.chain .LtE .LtE (.var 1) (.var 0) (.var 2))])]
def b_law_odd : List S :=
   [.asg (.nm 1) (.lst [(.con .none), (.con (.bool true)), (.con (.bool false)), (.neg (.con (.int 1))), (.bin .Pow (.con (.int 10)) (.con (.int 11))), (.con (.str "")), (.con (.str "a")), (.con (.str "row")), (.tup []), (.lst []), .dic0, (.tup [(.con (.int 0))]), (.lst [(.con (.int 0))]), (.tup [(.con (.str "reg")), (.con (.int 0))]), (.dic1 (.inr "a") ((.int 0))), (.con (.int 64))]),
    .ret (.ix (.var 1) (.call 10 [(.var 0), (.con (.int 16))]))]
def b_law_leaf : List S :=
   [.ret (.ix (.lst [(.call 10 [(.var 0), (.bin .LShift (.con (.int 1)) (.var 1))]), (.tup [(.con (.str "in")), (.call 10 [(.var 0), (.var 2)])])]) (.call 10 [(.var 0), (.con (.int 2))]))]
def b_law_tree : List S :=
   [.ife (.or [(.cmp .Eq (.var 3) (.con (.int 0))), (.cmp .Eq (.call 10 [(.var 0), (.con (.int 5))]) (.con (.int 0)))]) [.ret (.call 15 [(.var 0), (.var 1), (.var 2)])] [],
    .ife (.cmp .Eq (.call 10 [(.var 0), (.con (.int 5))]) (.con (.int 0))) [.ret (.tup [(.con (.str "not")), (.call 16 [(.var 0), (.var 1), (.var 2), (.bin .Sub (.var 3) (.con (.int 1)))])])] [],
    .asg (.nm 4) (.call 10 [(.var 0), (.var 3)]),
    .asg (.nm 5) (.call 11 [(.var 0), (.lst [(.con (.str "add")), (.con (.str "less")), (.con (.str "times")), (.con (.str "and")), (.con (.str "or")), (.con (.str "other")), (.con (.str "below")), (.con (.str "like"))])]),
    .asg (.nm 6) (.call 16 [(.var 0), (.var 1), (.var 2), (.var 4)]),
    .ret (.tup [(.var 5), (.var 6), (.call 16 [(.var 0), (.var 1), (.var 2), (.bin .Sub (.bin .Sub (.var 3) (.con (.int 1))) (.var 4))])])]
def b_law_bent : List S :=
   [.ife (.and [(.call 12 [(.var 1)]), (.cmp .Gt (.call 10 [(.var 0), (.con (.int 3))]) (.con (.int 0)))]) [.ret (.ix (.lst [(.bin .Add (.var 1) (.con (.int 1))), (.bin .Sub (.var 1) (.con (.int 1))), (.bin .Sub (.con (.int 0)) (.var 1)), (.bin .Add (.var 1) (.con (.int 64))), (.bin .Pow (.con (.int 10)) (.con (.int 11))), (.con (.bool true))]) (.call 10 [(.var 0), (.con (.int 6))]))] [],
    .ife (.or [(.not (.prim .isa [(.var 1), (.bty "tuple")])), (.cmp .Eq (.var 1) (.tup [])), (.cmp .Eq (.var 2) (.con (.int 0)))]) [.ret (.call 14 [(.var 0)])] [],
    .par 3 4 [(.call 10 [(.var 0), (.prim .len [(.var 1)])]), (.call 10 [(.var 0), (.con (.int 10))])],
    .ife (.cmp .Eq (.var 4) (.con (.int 0))) [.ret (.bin .Add (.bin .Add (.slT (.var 1) (.var 3)) (.tup [(.call 14 [(.var 0)])])) (.slF (.var 1) (.var 3)))] [],
    .ife (.cmp .Eq (.var 4) (.con (.int 1))) [.ret (.bin .Add (.slT (.var 1) (.var 3)) (.slF (.var 1) (.bin .Add (.var 3) (.con (.int 1)))))] [],
    .ife (.cmp .Eq (.var 4) (.con (.int 2))) [.ret (.bin .Add (.bin .Add (.slT (.var 1) (.var 3)) (.sl (.var 1) (.var 3) (.bin .Add (.var 3) (.con (.int 1))))) (.slF (.var 1) (.var 3)))] [],
    .ife (.cmp .Eq (.var 4) (.con (.int 3))) [.ret (.ix (.lst [(.prim .list [(.var 1)]), (.rev (.var 1))]) (.call 10 [(.var 0), (.con (.int 2))]))] [],
    .ret (.bin .Add (.bin .Add (.slT (.var 1) (.var 3)) (.tup [(.call 17 [(.var 0), (.ix (.var 1) (.var 3)), (.bin .Sub (.var 2) (.con (.int 1)))])])) (.slF (.var 1) (.bin .Add (.var 3) (.con (.int 1)))))]
def b_law_inners : List S :=
   [.ife (.call 13 [(.var 0), (.con (.int 0)), (.con (.int 63))]) [.ret (.con (.int 0))] [],
    .ife (.or [(.not (.prim .isa [(.var 0), (.bty "tuple")])), (.not (.chain .LtE .LtE (.con (.int 2)) (.prim .len [(.var 0)]) (.con (.int 3)))), (.not (.prim .isa [(.ix (.var 0) (.con (.int 0))), (.bty "str")]))]) [.ret (.con (.int 99))] [],
    .ife (.and [(.cmp .Eq (.prim .len [(.var 0)]) (.con (.int 2))), (.cmp .Eq (.ix (.var 0) (.con (.int 0))) (.con (.str "in")))]) [.ret (.ife (.call 13 [(.ix (.var 0) (.con (.int 1))), (.con (.int 0)), (.con (.int 3))]) (.con (.int 0)) (.con (.int 99)))] [],
    .ife (.cmp .Eq (.prim .len [(.var 0)]) (.con (.int 2))) [.ret (.ife (.cmp .Eq (.ix (.var 0) (.con (.int 0))) (.con (.str "not"))) (.bin .Add (.con (.int 1)) (.call 18 [(.ix (.var 0) (.con (.int 1)))])) (.con (.int 99)))] [],
    .ife (.cmp .NotIn (.ix (.var 0) (.con (.int 0))) (.lst [(.con (.str "add")), (.con (.str "less")), (.con (.str "times")), (.con (.str "and")), (.con (.str "or")), (.con (.str "other")), (.con (.str "below")), (.con (.str "like"))])) [.ret (.con (.int 99))] [],
    .ret (.bin .Add (.bin .Add (.con (.int 1)) (.call 18 [(.ix (.var 0) (.con (.int 1)))])) (.call 18 [(.ix (.var 0) (.con (.int 2)))]))]
def b_law_long : List S :=
   [.asg (.nm 2) (.call 15 [(.var 0), (.con (.int 6)), (.con (.int 4))]),
    .for (.nm 3) (.rng1 (.var 1)) [.asg (.nm 2) (.call 11 [(.var 0), (.lst [(.tup [(.con (.str "not")), (.var 2)]), (.tup [(.con (.str "add")), (.var 2), (.con (.int 1))]), (.tup [(.con (.str "or")), (.tup [(.con (.str "in")), (.con (.int 3))]), (.var 2)])])])],
    .ret (.var 2)]
def b_law : List S :=
   [.for (.nm 1) (.rng1 (.prim .max2 [(.con (.int 1)), (.prim .min2 [(.prim .len [(.var 0)]), (.con (.int 4))])])) [.asg (.nm 2) (.call 9 [(.call 8 [(.var 0), (.var 1)])]), .asg (.nm 3) (.call 16 [(.var 2), (.con (.int 6)), (.con (.int 4)), (.call 10 [(.var 2), (.con (.int 13))])]), .asg (.nm 4) (.lst [(.var 3), (.tup [(.con (.str "not")), (.var 3)]), (.tup [(.con (.str "times")), (.var 3), (.var 3)]), (.call 19 [(.var 2), (.con (.int 12))]), (.call 19 [(.var 2), (.con (.int 13))]), (.con (.int 0)), (.con (.int 63)), (.con (.int 64)), (.neg (.con (.int 1)))]), .asg (.nm 4) (.bin .Add (.var 4) (.lst [(.tup [(.con (.str "in")), (.con (.int 0))]), (.tup [(.con (.str "in")), (.con (.int 3))]), (.tup [(.con (.str "in")), (.con (.int 4))]), (.tup [(.con (.str "in")), (.neg (.con (.int 1)))]), (.tup [(.con (.str "in")), (.con (.bool true))]), (.tup [(.con (.str "in"))]), (.lst [(.con (.str "in")), (.con (.int 0))]), (.con (.bool true)), (.con .none)])), .asg (.nm 4) (.bin .Add (.var 4) (.lst [(.tup [(.con (.str "reg")), (.con (.int 0))]), (.tup [(.con (.str "cell")), (.con (.int 1))]), (.tup [(.con (.str "num")), (.con (.str "a"))]), (.tup [(.con (.str "stop"))]), (.tup [(.con (.str "not"))]), (.tup [(.con (.str "not")), (.con (.int 1)), (.con (.int 2))]), (.tup [(.con (.str "add")), (.con (.int 1))])])), .asg (.nm 4) (.bin .Add (.var 4) (.lst [(.tup [(.con (.str "add")), (.con (.int 1)), (.con (.int 2)), (.con (.int 3))]), (.tup [(.con (.str "Add")), (.con (.int 1)), (.con (.int 2))]), (.tup [(.con (.str "")), (.con (.int 1)), (.con (.int 2))]), (.tup [(.con .none), (.con (.int 1)), (.con (.int 2))]), (.tup [(.con (.str "in")), (.con (.int 0)), (.con (.int 1))]), (.tup [(.con (.str "in")), (.con (.str "0"))])])), .asg (.nm 4) (.bin .Add (.var 4) (.lst [(.con (.str "5")), (.tup [])])), .for (.nm 5) (.rng1 (.con (.int 16))) [.asg (.nm 4) (.bin .Add (.var 4) (.lst [(.call 17 [(.var 2), (.var 3), (.con (.int 3))]), (.call 17 [(.var 2), (.call 17 [(.var 2), (.var 3), (.con (.int 3))]), (.con (.int 3))])]))], .for (.nm 6) (.var 4) [.asg (.nm 7) (.prim .repr [(.var 6)]), .ife (.or [(.cmp .NotEq (.prim .repr [(.call 7 [(.var 6)])]) (.prim .repr [(.cmp .Lt (.call 18 [(.var 6)]) (.con (.int 13)))])), (.cmp .NotEq (.prim .repr [(.var 6)]) (.var 7))]) [.ret (.con (.bool false))] []]],
    .ret (.con (.bool true))]
abbrev f0 : Fn := ⟨"is_whole", ["thing"], ["thing"], b_is_whole⟩
abbrev f1 : Fn := ⟨"is_from_to", ["thing", "low", "high"], ["thing", "low", "high"], b_is_from_to⟩
abbrev f2 : Fn := ⟨"is_shaped", ["thing", "word", "many"], ["thing", "word", "many"], b_is_shaped⟩
abbrev f3 : Fn := ⟨"is_two", ["thing"], ["thing"], b_is_two⟩
abbrev f4 : Fn := ⟨"is_input", ["thing"], ["thing"], b_is_input⟩
abbrev f5 : Fn := ⟨"is_leaf", ["thing"], ["thing"], b_is_leaf⟩
abbrev f6 : Fn := ⟨"inner_of", ["thing"], ["thing"], b_inner_of⟩
abbrev f7 : Fn := ⟨"is_tree", ["thing"], ["thing"], b_is_tree⟩
abbrev f8 : Fn := ⟨"_law_cell_at", ["_law_script", "_law_k"], ["_law_script", "_law_k"], b_law_cell_at⟩
abbrev f9 : Fn := ⟨"_law_pen", ["_law_cell"], ["_law_cell"], b_law_pen⟩
abbrev f10 : Fn := ⟨"_law_draw", ["_law_pen_here", "_law_many"], ["_law_pen_here", "_law_many", "_law_stir", "_law_digit"], b_law_draw⟩
abbrev f11 : Fn := ⟨"_law_pick", ["_law_pen_here", "_law_some"], ["_law_pen_here", "_law_some"], b_law_pick⟩
abbrev f12 : Fn := ⟨"_law_whole", ["_law_thing"], ["_law_thing"], b_law_whole⟩
abbrev f13 : Fn := ⟨"_law_within", ["_law_thing", "_law_low", "_law_high"], ["_law_thing", "_law_low", "_law_high"], b_law_within⟩
abbrev f14 : Fn := ⟨"_law_odd", ["_law_pen_here"], ["_law_pen_here", "_law_some"], b_law_odd⟩
abbrev f15 : Fn := ⟨"_law_leaf", ["_law_pen_here", "_law_wide", "_law_registers"], ["_law_pen_here", "_law_wide", "_law_registers"], b_law_leaf⟩
abbrev f16 : Fn := ⟨"_law_tree", ["_law_pen_here", "_law_wide", "_law_registers", "_law_left"], ["_law_pen_here", "_law_wide", "_law_registers", "_law_left", "_law_first", "_law_word", "_law_one"], b_law_tree⟩
abbrev f17 : Fn := ⟨"_law_bent", ["_law_pen_here", "_law_thing", "_law_deep"], ["_law_pen_here", "_law_thing", "_law_deep", "_law_spot", "_law_way"], b_law_bent⟩
abbrev f18 : Fn := ⟨"_law_inners", ["_law_thing"], ["_law_thing"], b_law_inners⟩
abbrev f19 : Fn := ⟨"_law_long", ["_law_pen_here", "_law_many"], ["_law_pen_here", "_law_many", "_law_found", "_law_turn"], b_law_long⟩
abbrev f20 : Fn := ⟨"law", ["_law_script"], ["_law_script", "_law_k", "_law_pen_here", "_law_tree_here", "_law_things", "_law_turn", "_law_thing", "_law_kept"], b_law⟩
def T : List Fn := [f0, f1, f2, f3, f4, f5, f6, f7, f8, f9, f10, f11, f12, f13, f14, f15, f16, f17, f18, f19, f20]
def gl : List (Str × D) := [("WORDS", .tup [.str "add", .str "less", .str "times", .str "and", .str "or", .str "other", .str "below", .str "like"]), ("MOST_INPUT", .int 3), ("MOST_LEAF", .int 63), ("MOST_INNER", .int 12)]
def Γ : Gm := ⟨T.map (·.name), gl, ["isinstance", "int", "bool", "tuple", "len", "str", "max", "list", "range", "min", "repr"]⟩
end K30

set_option maxHeartbeats 4000000
namespace K30
open PySem PySem.Spec PyProof.Rows L2 MC
abbrev cD (n i : Nat) (ds : List D) : M D := callD T Γ.gl n i ds
def wholeB : D → Bool
  | .int _ => true
  | _ => false
def ftB (lo hi : Int) : D → Bool
  | .int i => decide (lo ≤ i) && decide (i ≤ hi)
  | _ => false
theorem tyN_of {d : D} (h : d.solid = true) : d.tyN.isSome = true := by
  cases d <;> first | rfl | (unfold D.solid at h; cases h)
theorem nm_int : "int" ∈ tyNames := by decide
theorem nm_bool : "bool" ∈ tyNames := by decide
theorem nm_str : "str" ∈ tyNames := by decide
theorem nm_tuple : "tuple" ∈ tyNames := by decide
section
variable {st : Sto} {R : Res D → Prop} {n : Nat}
theorem sp0 {d : D} (h : d.solid = true) : Go (cD (n + 1) 0 [d]) st R = R (.ok (.bl (wholeB d)) st) := by
  rw [cD, go_call (f := f0) rfl rfl]
  show GoS (evSs _ _ b_is_whole) _ _ _ = _
  unfold b_is_whole
  rw [gos_cons]
  simp only [gos_nil, evS, ev, evs, mArgs, mAnds, mOrs, tAnds, tOrs, Sm.of, Sm.bl, Sm.it, mVar, mCon, conD, mCall, mPrim, mBin, mChain, mAndV, mOrV, mAndT, mOrT, mNotV, mNotT, mIf, mNil, mCons, mTup, mLst, mDic, mYes,
  List.map_cons, List.map_nil, List.cons_append, List.nil_append, List.replicate, List.length_cons, List.length_nil, List.getElem?_cons_zero, List.getElem?_cons_succ, Option.join_some, List.set_cons_zero, List.set_cons_succ, Nat.reduceAdd, Nat.reduceSub, Nat.zero_add, Nat.add_zero,
  gos_seq, gos_next, gos_brk, gos_ct, gos_retN, gos_if, gos_asg, gos_ret, gos_drop, gos_par, gos_for, gos_setIx, kR_ok, kS_ok, kQ_nx, kQ_rt, kQ_bk, kQ_ct, kQ_ex, kC_rt, kC_nx, kC_ex,
  go_ret, go_some, go_bind, go_add, go_sub, go_mul, go_mod, go_div, go_pow, go_shl, go_lt, go_le, go_gt, go_ge, go_eq, go_eqS, go_ne, go_neS, go_eqB, go_eqT0, go_bl, go_tru, go_ixT, go_ixL, go_ixR, go_lenT, go_lenL, go_lenR, go_listT, go_max2, go_min2, go_if, gos_ifB, ifB_t, ifB_f,
  atI0, atI1, atI2, M.opt_some, Option.map_some, Bool.not_true, Bool.not_false, mSlice, mPart0, mRev, go_part, go_neg, go_slT, go_revT, go_rng1, asg, exists_eq_left', Option.some.injEq, D.int.injEq, List.cons.injEq, and_true, true_and, go_isa d _ (tyN_of h) nm_int, go_isa d _ (tyN_of h) nm_bool]
  cases d <;> first | (unfold D.solid at h; cases h; done) | (simp [isaB, D.tyN, subT, wholeB, ifB_t, ifB_f]; done)
theorem sp12 {d : D} (h : d.solid = true) : Go (cD (n + 1) 12 [d]) st R = R (.ok (.bl (wholeB d)) st) := by
  rw [cD, go_call (f := f12) rfl rfl]
  show GoS (evSs _ _ b_law_whole) _ _ _ = _
  unfold b_law_whole
  rw [gos_cons]
  simp only [gos_nil, evS, ev, evs, mArgs, mAnds, mOrs, tAnds, tOrs, Sm.of, Sm.bl, Sm.it, mVar, mCon, conD, mCall, mPrim, mBin, mChain, mAndV, mOrV, mAndT, mOrT, mNotV, mNotT, mIf, mNil, mCons, mTup, mLst, mDic, mYes,
  List.map_cons, List.map_nil, List.cons_append, List.nil_append, List.replicate, List.length_cons, List.length_nil, List.getElem?_cons_zero, List.getElem?_cons_succ, Option.join_some, List.set_cons_zero, List.set_cons_succ, Nat.reduceAdd, Nat.reduceSub, Nat.zero_add, Nat.add_zero,
  gos_seq, gos_next, gos_brk, gos_ct, gos_retN, gos_if, gos_asg, gos_ret, gos_drop, gos_par, gos_for, gos_setIx, kR_ok, kS_ok, kQ_nx, kQ_rt, kQ_bk, kQ_ct, kQ_ex, kC_rt, kC_nx, kC_ex,
  go_ret, go_some, go_bind, go_add, go_sub, go_mul, go_mod, go_div, go_pow, go_shl, go_lt, go_le, go_gt, go_ge, go_eq, go_eqS, go_ne, go_neS, go_eqB, go_eqT0, go_bl, go_tru, go_ixT, go_ixL, go_ixR, go_lenT, go_lenL, go_lenR, go_listT, go_max2, go_min2, go_if, gos_ifB, ifB_t, ifB_f,
  atI0, atI1, atI2, M.opt_some, Option.map_some, Bool.not_true, Bool.not_false, mSlice, mPart0, mRev, go_part, go_neg, go_slT, go_revT, go_rng1, asg, exists_eq_left', Option.some.injEq, D.int.injEq, List.cons.injEq, and_true, true_and, go_isa d _ (tyN_of h) nm_int, go_isa d _ (tyN_of h) nm_bool]
  cases d <;> first | (unfold D.solid at h; cases h; done) | (simp [isaB, D.tyN, subT, wholeB, ifB_t, ifB_f]; done)
theorem cell0 (n i : Nat) (ds : List D) : callD T Γ.gl n i ds = cD n i ds := rfl
theorem sp1 {d : D} {lo hi : Int} (h : d.solid = true) : Go (cD (n + 2) 1 [d, .int lo, .int hi]) st R = R (.ok (.bl (ftB lo hi d)) st) := by
  rw [cD, go_call (f := f1) rfl rfl]
  show GoS (evSs _ _ b_is_from_to) _ _ _ = _
  unfold b_is_from_to
  rw [gos_cons]
  simp only [gos_nil, evS, ev, evs, mArgs, mAnds, mOrs, tAnds, tOrs, Sm.of, Sm.bl, Sm.it, mVar, mCon, conD, mCall, mPrim, mBin, mChain, mAndV, mOrV, mAndT, mOrT, mNotV, mNotT, mIf, mNil, mCons, mTup, mLst, mDic, mYes,
  List.map_cons, List.map_nil, List.cons_append, List.nil_append, List.replicate, List.length_cons, List.length_nil, List.getElem?_cons_zero, List.getElem?_cons_succ, Option.join_some, List.set_cons_zero, List.set_cons_succ, Nat.reduceAdd, Nat.reduceSub, Nat.zero_add, Nat.add_zero,
  gos_seq, gos_next, gos_brk, gos_ct, gos_retN, gos_if, gos_asg, gos_ret, gos_drop, gos_par, gos_for, gos_setIx, kR_ok, kS_ok, kQ_nx, kQ_rt, kQ_bk, kQ_ct, kQ_ex, kC_rt, kC_nx, kC_ex,
  go_ret, go_some, go_bind, go_add, go_sub, go_mul, go_mod, go_div, go_pow, go_shl, go_lt, go_le, go_gt, go_ge, go_eq, go_eqS, go_ne, go_neS, go_eqB, go_eqT0, go_bl, go_tru, go_ixT, go_ixL, go_ixR, go_lenT, go_lenL, go_lenR, go_listT, go_max2, go_min2, go_if, gos_ifB, ifB_t, ifB_f,
  atI0, atI1, atI2, M.opt_some, Option.map_some, Bool.not_true, Bool.not_false, mSlice, mPart0, mRev, go_part, go_neg, go_slT, go_revT, go_rng1, asg, exists_eq_left', Option.some.injEq, D.int.injEq, List.cons.injEq, and_true, true_and, cell0, sp0 h]
  cases d <;> try (simp only [wholeB, ftB, ifB_f]; done)
  rename_i i
  simp only [gos_nil, evS, ev, evs, mArgs, mAnds, mOrs, tAnds, tOrs, Sm.of, Sm.bl, Sm.it, mVar, mCon, conD, mCall, mPrim, mBin, mChain, mAndV, mOrV, mAndT, mOrT, mNotV, mNotT, mIf, mNil, mCons, mTup, mLst, mDic, mYes,
  List.map_cons, List.map_nil, List.cons_append, List.nil_append, List.replicate, List.length_cons, List.length_nil, List.getElem?_cons_zero, List.getElem?_cons_succ, Option.join_some, List.set_cons_zero, List.set_cons_succ, Nat.reduceAdd, Nat.reduceSub, Nat.zero_add, Nat.add_zero,
  gos_seq, gos_next, gos_brk, gos_ct, gos_retN, gos_if, gos_asg, gos_ret, gos_drop, gos_par, gos_for, gos_setIx, kR_ok, kS_ok, kQ_nx, kQ_rt, kQ_bk, kQ_ct, kQ_ex, kC_rt, kC_nx, kC_ex,
  go_ret, go_some, go_bind, go_add, go_sub, go_mul, go_mod, go_div, go_pow, go_shl, go_lt, go_le, go_gt, go_ge, go_eq, go_eqS, go_ne, go_neS, go_eqB, go_eqT0, go_bl, go_tru, go_ixT, go_ixL, go_ixR, go_lenT, go_lenL, go_lenR, go_listT, go_max2, go_min2, go_if, gos_ifB, ifB_t, ifB_f,
  atI0, atI1, atI2, M.opt_some, Option.map_some, Bool.not_true, Bool.not_false, mSlice, mPart0, mRev, go_part, go_neg, go_slT, go_revT, go_rng1, asg, exists_eq_left', Option.some.injEq, D.int.injEq, List.cons.injEq, and_true, true_and, wholeB, ftB]
  by_cases h1 : lo ≤ i <;> by_cases h2 : i ≤ hi <;> simp [h1, h2, ifB_t, ifB_f]
theorem sp13 {d : D} {lo hi : Int} (h : d.solid = true) : Go (cD (n + 2) 13 [d, .int lo, .int hi]) st R = R (.ok (.bl (ftB lo hi d)) st) := by
  rw [cD, go_call (f := f13) rfl rfl]
  show GoS (evSs _ _ b_law_within) _ _ _ = _
  unfold b_law_within
  rw [gos_cons]
  simp only [gos_nil, evS, ev, evs, mArgs, mAnds, mOrs, tAnds, tOrs, Sm.of, Sm.bl, Sm.it, mVar, mCon, conD, mCall, mPrim, mBin, mChain, mAndV, mOrV, mAndT, mOrT, mNotV, mNotT, mIf, mNil, mCons, mTup, mLst, mDic, mYes,
  List.map_cons, List.map_nil, List.cons_append, List.nil_append, List.replicate, List.length_cons, List.length_nil, List.getElem?_cons_zero, List.getElem?_cons_succ, Option.join_some, List.set_cons_zero, List.set_cons_succ, Nat.reduceAdd, Nat.reduceSub, Nat.zero_add, Nat.add_zero,
  gos_seq, gos_next, gos_brk, gos_ct, gos_retN, gos_if, gos_asg, gos_ret, gos_drop, gos_par, gos_for, gos_setIx, kR_ok, kS_ok, kQ_nx, kQ_rt, kQ_bk, kQ_ct, kQ_ex, kC_rt, kC_nx, kC_ex,
  go_ret, go_some, go_bind, go_add, go_sub, go_mul, go_mod, go_div, go_pow, go_shl, go_lt, go_le, go_gt, go_ge, go_eq, go_eqS, go_ne, go_neS, go_eqB, go_eqT0, go_bl, go_tru, go_ixT, go_ixL, go_ixR, go_lenT, go_lenL, go_lenR, go_listT, go_max2, go_min2, go_if, gos_ifB, ifB_t, ifB_f,
  atI0, atI1, atI2, M.opt_some, Option.map_some, Bool.not_true, Bool.not_false, mSlice, mPart0, mRev, go_part, go_neg, go_slT, go_revT, go_rng1, asg, exists_eq_left', Option.some.injEq, D.int.injEq, List.cons.injEq, and_true, true_and, cell0, sp12 h]
  cases d <;> try (simp only [wholeB, ftB, ifB_f]; done)
  rename_i i
  simp only [gos_nil, evS, ev, evs, mArgs, mAnds, mOrs, tAnds, tOrs, Sm.of, Sm.bl, Sm.it, mVar, mCon, conD, mCall, mPrim, mBin, mChain, mAndV, mOrV, mAndT, mOrT, mNotV, mNotT, mIf, mNil, mCons, mTup, mLst, mDic, mYes,
  List.map_cons, List.map_nil, List.cons_append, List.nil_append, List.replicate, List.length_cons, List.length_nil, List.getElem?_cons_zero, List.getElem?_cons_succ, Option.join_some, List.set_cons_zero, List.set_cons_succ, Nat.reduceAdd, Nat.reduceSub, Nat.zero_add, Nat.add_zero,
  gos_seq, gos_next, gos_brk, gos_ct, gos_retN, gos_if, gos_asg, gos_ret, gos_drop, gos_par, gos_for, gos_setIx, kR_ok, kS_ok, kQ_nx, kQ_rt, kQ_bk, kQ_ct, kQ_ex, kC_rt, kC_nx, kC_ex,
  go_ret, go_some, go_bind, go_add, go_sub, go_mul, go_mod, go_div, go_pow, go_shl, go_lt, go_le, go_gt, go_ge, go_eq, go_eqS, go_ne, go_neS, go_eqB, go_eqT0, go_bl, go_tru, go_ixT, go_ixL, go_ixR, go_lenT, go_lenL, go_lenR, go_listT, go_max2, go_min2, go_if, gos_ifB, ifB_t, ifB_f,
  atI0, atI1, atI2, M.opt_some, Option.map_some, Bool.not_true, Bool.not_false, mSlice, mPart0, mRev, go_part, go_neg, go_slT, go_revT, go_rng1, asg, exists_eq_left', Option.some.injEq, D.int.injEq, List.cons.injEq, and_true, true_and, wholeB, ftB]
  by_cases h1 : lo ≤ i <;> by_cases h2 : i ≤ hi <;> simp [h1, h2, ifB_t, ifB_f]
def shB (w : Str) (k : Nat) : D → Bool
  | .tup (.str x :: l) => decide (l.length + 1 = k) && decide (x = w)
  | _ => false
theorem sp2 {d : D} {w : Str} {k : Nat} (h : d.solid = true) (hk : 1 ≤ k) : Go (cD (n + 1) 2 [d, .str w, .int k]) st R = R (.ok (.bl (shB w k d)) st) := by
  rw [cD, go_call (f := f2) rfl rfl]
  show GoS (evSs _ _ b_is_shaped) _ _ _ = _
  unfold b_is_shaped
  rw [gos_cons]
  simp only [gos_nil, evS, ev, evs, mArgs, mAnds, mOrs, tAnds, tOrs, Sm.of, Sm.bl, Sm.it, mVar, mCon, conD, mCall, mPrim, mBin, mChain, mAndV, mOrV, mAndT, mOrT, mNotV, mNotT, mIf, mNil, mCons, mTup, mLst, mDic, mYes,
  List.map_cons, List.map_nil, List.cons_append, List.nil_append, List.replicate, List.length_cons, List.length_nil, List.getElem?_cons_zero, List.getElem?_cons_succ, Option.join_some, List.set_cons_zero, List.set_cons_succ, Nat.reduceAdd, Nat.reduceSub, Nat.zero_add, Nat.add_zero,
  gos_seq, gos_next, gos_brk, gos_ct, gos_retN, gos_if, gos_asg, gos_ret, gos_drop, gos_par, gos_for, gos_setIx, kR_ok, kS_ok, kQ_nx, kQ_rt, kQ_bk, kQ_ct, kQ_ex, kC_rt, kC_nx, kC_ex,
  go_ret, go_some, go_bind, go_add, go_sub, go_mul, go_mod, go_div, go_pow, go_shl, go_lt, go_le, go_gt, go_ge, go_eq, go_eqS, go_ne, go_neS, go_eqB, go_eqT0, go_bl, go_tru, go_ixT, go_ixL, go_ixR, go_lenT, go_lenL, go_lenR, go_listT, go_max2, go_min2, go_if, gos_ifB, ifB_t, ifB_f,
  atI0, atI1, atI2, M.opt_some, Option.map_some, Bool.not_true, Bool.not_false, mSlice, mPart0, mRev, go_part, go_neg, go_slT, go_revT, go_rng1, asg, exists_eq_left', Option.some.injEq, D.int.injEq, List.cons.injEq, and_true, true_and, go_isa d _ (tyN_of h) nm_tuple]
  cases d <;> try (first | (unfold D.solid at h; cases h; done) | (simp [isaB, D.tyN, subT, shB, ifB_t, ifB_f]; done))
  rename_i l
  have e : isaB (.tup l) "tuple" = true := by rfl
  simp only [gos_nil, evS, ev, evs, mArgs, mAnds, mOrs, tAnds, tOrs, Sm.of, Sm.bl, Sm.it, mVar, mCon, conD, mCall, mPrim, mBin, mChain, mAndV, mOrV, mAndT, mOrT, mNotV, mNotT, mIf, mNil, mCons, mTup, mLst, mDic, mYes,
  List.map_cons, List.map_nil, List.cons_append, List.nil_append, List.replicate, List.length_cons, List.length_nil, List.getElem?_cons_zero, List.getElem?_cons_succ, Option.join_some, List.set_cons_zero, List.set_cons_succ, Nat.reduceAdd, Nat.reduceSub, Nat.zero_add, Nat.add_zero,
  gos_seq, gos_next, gos_brk, gos_ct, gos_retN, gos_if, gos_asg, gos_ret, gos_drop, gos_par, gos_for, gos_setIx, kR_ok, kS_ok, kQ_nx, kQ_rt, kQ_bk, kQ_ct, kQ_ex, kC_rt, kC_nx, kC_ex,
  go_ret, go_some, go_bind, go_add, go_sub, go_mul, go_mod, go_div, go_pow, go_shl, go_lt, go_le, go_gt, go_ge, go_eq, go_eqS, go_ne, go_neS, go_eqB, go_eqT0, go_bl, go_tru, go_ixT, go_ixL, go_ixR, go_lenT, go_lenL, go_lenR, go_listT, go_max2, go_min2, go_if, gos_ifB, ifB_t, ifB_f,
  atI0, atI1, atI2, M.opt_some, Option.map_some, Bool.not_true, Bool.not_false, mSlice, mPart0, mRev, go_part, go_neg, go_slT, go_revT, go_rng1, asg, exists_eq_left', Option.some.injEq, D.int.injEq, List.cons.injEq, and_true, true_and, e]
  cases l with
  | nil =>
    have : ¬ (((0 : Nat) : Int) = (k : Int)) := by omega
    simp only [gos_nil, evS, ev, evs, mArgs, mAnds, mOrs, tAnds, tOrs, Sm.of, Sm.bl, Sm.it, mVar, mCon, conD, mCall, mPrim, mBin, mChain, mAndV, mOrV, mAndT, mOrT, mNotV, mNotT, mIf, mNil, mCons, mTup, mLst, mDic, mYes,
  List.map_cons, List.map_nil, List.cons_append, List.nil_append, List.replicate, List.length_cons, List.length_nil, List.getElem?_cons_zero, List.getElem?_cons_succ, Option.join_some, List.set_cons_zero, List.set_cons_succ, Nat.reduceAdd, Nat.reduceSub, Nat.zero_add, Nat.add_zero,
  gos_seq, gos_next, gos_brk, gos_ct, gos_retN, gos_if, gos_asg, gos_ret, gos_drop, gos_par, gos_for, gos_setIx, kR_ok, kS_ok, kQ_nx, kQ_rt, kQ_bk, kQ_ct, kQ_ex, kC_rt, kC_nx, kC_ex,
  go_ret, go_some, go_bind, go_add, go_sub, go_mul, go_mod, go_div, go_pow, go_shl, go_lt, go_le, go_gt, go_ge, go_eq, go_eqS, go_ne, go_neS, go_eqB, go_eqT0, go_bl, go_tru, go_ixT, go_ixL, go_ixR, go_lenT, go_lenL, go_lenR, go_listT, go_max2, go_min2, go_if, gos_ifB, ifB_t, ifB_f,
  atI0, atI1, atI2, M.opt_some, Option.map_some, Bool.not_true, Bool.not_false, mSlice, mPart0, mRev, go_part, go_neg, go_slT, go_revT, go_rng1, asg, exists_eq_left', Option.some.injEq, D.int.injEq, List.cons.injEq, and_true, true_and, this, decide_false, shB]
  | cons x l =>
    have hx : x.solid = true := by
      unfold D.solid D.solidL at h
      exact (and2 h).1
    by_cases hl : l.length + 1 = k
    · have : ((l.length + 1 : Nat) : Int) = (k : Int) := by omega
      simp only [gos_nil, evS, ev, evs, mArgs, mAnds, mOrs, tAnds, tOrs, Sm.of, Sm.bl, Sm.it, mVar, mCon, conD, mCall, mPrim, mBin, mChain, mAndV, mOrV, mAndT, mOrT, mNotV, mNotT, mIf, mNil, mCons, mTup, mLst, mDic, mYes,
  List.map_cons, List.map_nil, List.cons_append, List.nil_append, List.replicate, List.length_cons, List.length_nil, List.getElem?_cons_zero, List.getElem?_cons_succ, Option.join_some, List.set_cons_zero, List.set_cons_succ, Nat.reduceAdd, Nat.reduceSub, Nat.zero_add, Nat.add_zero,
  gos_seq, gos_next, gos_brk, gos_ct, gos_retN, gos_if, gos_asg, gos_ret, gos_drop, gos_par, gos_for, gos_setIx, kR_ok, kS_ok, kQ_nx, kQ_rt, kQ_bk, kQ_ct, kQ_ex, kC_rt, kC_nx, kC_ex,
  go_ret, go_some, go_bind, go_add, go_sub, go_mul, go_mod, go_div, go_pow, go_shl, go_lt, go_le, go_gt, go_ge, go_eq, go_eqS, go_ne, go_neS, go_eqB, go_eqT0, go_bl, go_tru, go_ixT, go_ixL, go_ixR, go_lenT, go_lenL, go_lenR, go_listT, go_max2, go_min2, go_if, gos_ifB, ifB_t, ifB_f,
  atI0, atI1, atI2, M.opt_some, Option.map_some, Bool.not_true, Bool.not_false, mSlice, mPart0, mRev, go_part, go_neg, go_slT, go_revT, go_rng1, asg, exists_eq_left', Option.some.injEq, D.int.injEq, List.cons.injEq, and_true, true_and, this, decide_true, go_isa x _ (tyN_of hx) nm_str]
      cases x <;> try (first | (unfold D.solid at hx; cases hx; done) | (simp [isaB, D.tyN, subT, shB, ifB_t, ifB_f]; done))
      rename_i z
      have e2 : isaB (.str z) "str" = true := by rfl
      simp only [gos_nil, evS, ev, evs, mArgs, mAnds, mOrs, tAnds, tOrs, Sm.of, Sm.bl, Sm.it, mVar, mCon, conD, mCall, mPrim, mBin, mChain, mAndV, mOrV, mAndT, mOrT, mNotV, mNotT, mIf, mNil, mCons, mTup, mLst, mDic, mYes,
  List.map_cons, List.map_nil, List.cons_append, List.nil_append, List.replicate, List.length_cons, List.length_nil, List.getElem?_cons_zero, List.getElem?_cons_succ, Option.join_some, List.set_cons_zero, List.set_cons_succ, Nat.reduceAdd, Nat.reduceSub, Nat.zero_add, Nat.add_zero,
  gos_seq, gos_next, gos_brk, gos_ct, gos_retN, gos_if, gos_asg, gos_ret, gos_drop, gos_par, gos_for, gos_setIx, kR_ok, kS_ok, kQ_nx, kQ_rt, kQ_bk, kQ_ct, kQ_ex, kC_rt, kC_nx, kC_ex,
  go_ret, go_some, go_bind, go_add, go_sub, go_mul, go_mod, go_div, go_pow, go_shl, go_lt, go_le, go_gt, go_ge, go_eq, go_eqS, go_ne, go_neS, go_eqB, go_eqT0, go_bl, go_tru, go_ixT, go_ixL, go_ixR, go_lenT, go_lenL, go_lenR, go_listT, go_max2, go_min2, go_if, gos_ifB, ifB_t, ifB_f,
  atI0, atI1, atI2, M.opt_some, Option.map_some, Bool.not_true, Bool.not_false, mSlice, mPart0, mRev, go_part, go_neg, go_slT, go_revT, go_rng1, asg, exists_eq_left', Option.some.injEq, D.int.injEq, List.cons.injEq, and_true, true_and, e2, shB, hl, decide_true, Bool.true_and]
    · have : ¬ ((l.length + 1 : Nat) : Int) = (k : Int) := by omega
      simp only [gos_nil, evS, ev, evs, mArgs, mAnds, mOrs, tAnds, tOrs, Sm.of, Sm.bl, Sm.it, mVar, mCon, conD, mCall, mPrim, mBin, mChain, mAndV, mOrV, mAndT, mOrT, mNotV, mNotT, mIf, mNil, mCons, mTup, mLst, mDic, mYes,
  List.map_cons, List.map_nil, List.cons_append, List.nil_append, List.replicate, List.length_cons, List.length_nil, List.getElem?_cons_zero, List.getElem?_cons_succ, Option.join_some, List.set_cons_zero, List.set_cons_succ, Nat.reduceAdd, Nat.reduceSub, Nat.zero_add, Nat.add_zero,
  gos_seq, gos_next, gos_brk, gos_ct, gos_retN, gos_if, gos_asg, gos_ret, gos_drop, gos_par, gos_for, gos_setIx, kR_ok, kS_ok, kQ_nx, kQ_rt, kQ_bk, kQ_ct, kQ_ex, kC_rt, kC_nx, kC_ex,
  go_ret, go_some, go_bind, go_add, go_sub, go_mul, go_mod, go_div, go_pow, go_shl, go_lt, go_le, go_gt, go_ge, go_eq, go_eqS, go_ne, go_neS, go_eqB, go_eqT0, go_bl, go_tru, go_ixT, go_ixL, go_ixR, go_lenT, go_lenL, go_lenR, go_listT, go_max2, go_min2, go_if, gos_ifB, ifB_t, ifB_f,
  atI0, atI1, atI2, M.opt_some, Option.map_some, Bool.not_true, Bool.not_false, mSlice, mPart0, mRev, go_part, go_neg, go_slT, go_revT, go_rng1, asg, exists_eq_left', Option.some.injEq, D.int.injEq, List.cons.injEq, and_true, true_and, this, decide_false]
      cases x <;> simp [shB, hl]
end
end K30

set_option maxHeartbeats 4000000
namespace K30
open PySem PySem.Spec PyProof.Rows L2 MC
def W : List D := [.str "add", .str "less", .str "times", .str "and", .str "or", .str "other", .str "below", .str "like"]
def wB (w : Str) : Bool := W.any fun z => PyData.eqv z.py (D.str w).py
theorem lkW : Γ.gl.lookup ("WORDS" : Str) = some (.tup W) := by rfl
theorem lkL : Γ.gl.lookup ("MOST_LEAF" : Str) = some (.int 63) := by rfl
theorem lkI : Γ.gl.lookup ("MOST_INPUT" : Str) = some (.int 3) := by rfl
theorem lkN : Γ.gl.lookup ("MOST_INNER" : Str) = some (.int 12) := by rfl
def twB : D → Bool
  | .tup (.str x :: l) => decide (l.length + 1 = 3) && wB x
  | _ => false
def inpB : D → Bool
  | .tup [.str x, y] => decide (x = "in") && ftB 0 3 y
  | _ => false
def leafB (d : D) : Bool := ftB 0 63 d || inpB d
section
variable {st : Sto} {R : Res D → Prop} {n : Nat}
theorem sp3 {d : D} (h : d.solid = true) : Go (cD (n + 1) 3 [d]) st R = R (.ok (.bl (twB d)) st) := by
  rw [cD, go_call (f := f3) rfl rfl]
  show GoS (evSs _ _ b_is_two) _ _ _ = _
  unfold b_is_two
  (rw [gos_cons]; simp only [gos_nil, evS, ev, evs, mArgs, mAnds, mOrs, tAnds, tOrs, Sm.of, Sm.bl, Sm.it, mVar, mCon, conD, mCall, mPrim, mBin, mChain, mAndV, mOrV, mAndT, mOrT, mNotV, mNotT, mIf, mNil, mCons, mTup, mLst, mDic, mYes,
  List.map_cons, List.map_nil, List.cons_append, List.nil_append, List.replicate, List.length_cons, List.length_nil, List.getElem?_cons_zero, List.getElem?_cons_succ, Option.join_some, List.set_cons_zero, List.set_cons_succ, Nat.reduceAdd, Nat.reduceSub, Nat.zero_add, Nat.add_zero,
  gos_seq, gos_next, gos_brk, gos_ct, gos_retN, gos_if, gos_asg, gos_ret, gos_drop, gos_par, gos_for, gos_setIx, kR_ok, kS_ok, kQ_nx, kQ_rt, kQ_bk, kQ_ct, kQ_ex, kC_rt, kC_nx, kC_ex,
  go_ret, go_some, go_bind, go_add, go_sub, go_mul, go_mod, go_div, go_pow, go_shl, go_lt, go_le, go_gt, go_ge, go_eq, go_eqS, go_ne, go_neS, go_eqB, go_eqT0, go_bl, go_tru, go_ixT, go_ixL, go_ixR, go_lenT, go_lenL, go_lenR, go_listT, go_max2, go_min2, go_if, gos_ifB, ifB_t, ifB_f,
  atI0, atI1, atI2, M.opt_some, Option.map_some, Bool.not_true, Bool.not_false, mSlice, mPart0, mRev, go_part, go_neg, go_slT, go_revT, go_rng1, asg, exists_eq_left', Option.some.injEq, D.int.injEq, List.cons.injEq, and_true, true_and, go_isa d _ (tyN_of h) nm_tuple])
  cases d <;> try (first | (unfold D.solid at h; cases h; done) | (simp [isaB, D.tyN, subT, twB, ifB_t, ifB_f]; done))
  rename_i l
  have e : isaB (.tup l) "tuple" = true := by rfl
  simp only [gos_nil, evS, ev, evs, mArgs, mAnds, mOrs, tAnds, tOrs, Sm.of, Sm.bl, Sm.it, mVar, mCon, conD, mCall, mPrim, mBin, mChain, mAndV, mOrV, mAndT, mOrT, mNotV, mNotT, mIf, mNil, mCons, mTup, mLst, mDic, mYes,
  List.map_cons, List.map_nil, List.cons_append, List.nil_append, List.replicate, List.length_cons, List.length_nil, List.getElem?_cons_zero, List.getElem?_cons_succ, Option.join_some, List.set_cons_zero, List.set_cons_succ, Nat.reduceAdd, Nat.reduceSub, Nat.zero_add, Nat.add_zero,
  gos_seq, gos_next, gos_brk, gos_ct, gos_retN, gos_if, gos_asg, gos_ret, gos_drop, gos_par, gos_for, gos_setIx, kR_ok, kS_ok, kQ_nx, kQ_rt, kQ_bk, kQ_ct, kQ_ex, kC_rt, kC_nx, kC_ex,
  go_ret, go_some, go_bind, go_add, go_sub, go_mul, go_mod, go_div, go_pow, go_shl, go_lt, go_le, go_gt, go_ge, go_eq, go_eqS, go_ne, go_neS, go_eqB, go_eqT0, go_bl, go_tru, go_ixT, go_ixL, go_ixR, go_lenT, go_lenL, go_lenR, go_listT, go_max2, go_min2, go_if, gos_ifB, ifB_t, ifB_f,
  atI0, atI1, atI2, M.opt_some, Option.map_some, Bool.not_true, Bool.not_false, mSlice, mPart0, mRev, go_part, go_neg, go_slT, go_revT, go_rng1, asg, exists_eq_left', Option.some.injEq, D.int.injEq, List.cons.injEq, and_true, true_and, e]
  cases l with
  | nil =>
    have : ¬ (((0 : Nat) : Int) = (3 : Int)) := by omega
    simp only [gos_nil, evS, ev, evs, mArgs, mAnds, mOrs, tAnds, tOrs, Sm.of, Sm.bl, Sm.it, mVar, mCon, conD, mCall, mPrim, mBin, mChain, mAndV, mOrV, mAndT, mOrT, mNotV, mNotT, mIf, mNil, mCons, mTup, mLst, mDic, mYes,
  List.map_cons, List.map_nil, List.cons_append, List.nil_append, List.replicate, List.length_cons, List.length_nil, List.getElem?_cons_zero, List.getElem?_cons_succ, Option.join_some, List.set_cons_zero, List.set_cons_succ, Nat.reduceAdd, Nat.reduceSub, Nat.zero_add, Nat.add_zero,
  gos_seq, gos_next, gos_brk, gos_ct, gos_retN, gos_if, gos_asg, gos_ret, gos_drop, gos_par, gos_for, gos_setIx, kR_ok, kS_ok, kQ_nx, kQ_rt, kQ_bk, kQ_ct, kQ_ex, kC_rt, kC_nx, kC_ex,
  go_ret, go_some, go_bind, go_add, go_sub, go_mul, go_mod, go_div, go_pow, go_shl, go_lt, go_le, go_gt, go_ge, go_eq, go_eqS, go_ne, go_neS, go_eqB, go_eqT0, go_bl, go_tru, go_ixT, go_ixL, go_ixR, go_lenT, go_lenL, go_lenR, go_listT, go_max2, go_min2, go_if, gos_ifB, ifB_t, ifB_f,
  atI0, atI1, atI2, M.opt_some, Option.map_some, Bool.not_true, Bool.not_false, mSlice, mPart0, mRev, go_part, go_neg, go_slT, go_revT, go_rng1, asg, exists_eq_left', Option.some.injEq, D.int.injEq, List.cons.injEq, and_true, true_and, this, decide_false, twB]
  | cons x l =>
    have hx : x.solid = true := by
      unfold D.solid D.solidL at h
      exact (and2 h).1
    by_cases hl : l.length + 1 = 3
    · have : ((l.length + 1 : Nat) : Int) = (3 : Int) := by omega
      simp only [gos_nil, evS, ev, evs, mArgs, mAnds, mOrs, tAnds, tOrs, Sm.of, Sm.bl, Sm.it, mVar, mCon, conD, mCall, mPrim, mBin, mChain, mAndV, mOrV, mAndT, mOrT, mNotV, mNotT, mIf, mNil, mCons, mTup, mLst, mDic, mYes,
  List.map_cons, List.map_nil, List.cons_append, List.nil_append, List.replicate, List.length_cons, List.length_nil, List.getElem?_cons_zero, List.getElem?_cons_succ, Option.join_some, List.set_cons_zero, List.set_cons_succ, Nat.reduceAdd, Nat.reduceSub, Nat.zero_add, Nat.add_zero,
  gos_seq, gos_next, gos_brk, gos_ct, gos_retN, gos_if, gos_asg, gos_ret, gos_drop, gos_par, gos_for, gos_setIx, kR_ok, kS_ok, kQ_nx, kQ_rt, kQ_bk, kQ_ct, kQ_ex, kC_rt, kC_nx, kC_ex,
  go_ret, go_some, go_bind, go_add, go_sub, go_mul, go_mod, go_div, go_pow, go_shl, go_lt, go_le, go_gt, go_ge, go_eq, go_eqS, go_ne, go_neS, go_eqB, go_eqT0, go_bl, go_tru, go_ixT, go_ixL, go_ixR, go_lenT, go_lenL, go_lenR, go_listT, go_max2, go_min2, go_if, gos_ifB, ifB_t, ifB_f,
  atI0, atI1, atI2, M.opt_some, Option.map_some, Bool.not_true, Bool.not_false, mSlice, mPart0, mRev, go_part, go_neg, go_slT, go_revT, go_rng1, asg, exists_eq_left', Option.some.injEq, D.int.injEq, List.cons.injEq, and_true, true_and, this, decide_true, go_isa x _ (tyN_of hx) nm_str]
      cases x <;> try (first | (unfold D.solid at hx; cases hx; done) | (simp [isaB, D.tyN, subT, twB, ifB_t, ifB_f]; done))
      rename_i z
      have e2 : isaB (.str z) "str" = true := by rfl
      simp only [gos_nil, evS, ev, evs, mArgs, mAnds, mOrs, tAnds, tOrs, Sm.of, Sm.bl, Sm.it, mVar, mCon, conD, mCall, mPrim, mBin, mChain, mAndV, mOrV, mAndT, mOrT, mNotV, mNotT, mIf, mNil, mCons, mTup, mLst, mDic, mYes,
  List.map_cons, List.map_nil, List.cons_append, List.nil_append, List.replicate, List.length_cons, List.length_nil, List.getElem?_cons_zero, List.getElem?_cons_succ, Option.join_some, List.set_cons_zero, List.set_cons_succ, Nat.reduceAdd, Nat.reduceSub, Nat.zero_add, Nat.add_zero,
  gos_seq, gos_next, gos_brk, gos_ct, gos_retN, gos_if, gos_asg, gos_ret, gos_drop, gos_par, gos_for, gos_setIx, kR_ok, kS_ok, kQ_nx, kQ_rt, kQ_bk, kQ_ct, kQ_ex, kC_rt, kC_nx, kC_ex,
  go_ret, go_some, go_bind, go_add, go_sub, go_mul, go_mod, go_div, go_pow, go_shl, go_lt, go_le, go_gt, go_ge, go_eq, go_eqS, go_ne, go_neS, go_eqB, go_eqT0, go_bl, go_tru, go_ixT, go_ixL, go_ixR, go_lenT, go_lenL, go_lenR, go_listT, go_max2, go_min2, go_if, gos_ifB, ifB_t, ifB_f,
  atI0, atI1, atI2, M.opt_some, Option.map_some, Bool.not_true, Bool.not_false, mSlice, mPart0, mRev, go_part, go_neg, go_slT, go_revT, go_rng1, asg, exists_eq_left', Option.some.injEq, D.int.injEq, List.cons.injEq, and_true, true_and, e2, twB, hl, decide_true, Bool.true_and, lkW, go_inT z W rfl]
      rfl
    · have : ¬ ((l.length + 1 : Nat) : Int) = (3 : Int) := by omega
      simp only [gos_nil, evS, ev, evs, mArgs, mAnds, mOrs, tAnds, tOrs, Sm.of, Sm.bl, Sm.it, mVar, mCon, conD, mCall, mPrim, mBin, mChain, mAndV, mOrV, mAndT, mOrT, mNotV, mNotT, mIf, mNil, mCons, mTup, mLst, mDic, mYes,
  List.map_cons, List.map_nil, List.cons_append, List.nil_append, List.replicate, List.length_cons, List.length_nil, List.getElem?_cons_zero, List.getElem?_cons_succ, Option.join_some, List.set_cons_zero, List.set_cons_succ, Nat.reduceAdd, Nat.reduceSub, Nat.zero_add, Nat.add_zero,
  gos_seq, gos_next, gos_brk, gos_ct, gos_retN, gos_if, gos_asg, gos_ret, gos_drop, gos_par, gos_for, gos_setIx, kR_ok, kS_ok, kQ_nx, kQ_rt, kQ_bk, kQ_ct, kQ_ex, kC_rt, kC_nx, kC_ex,
  go_ret, go_some, go_bind, go_add, go_sub, go_mul, go_mod, go_div, go_pow, go_shl, go_lt, go_le, go_gt, go_ge, go_eq, go_eqS, go_ne, go_neS, go_eqB, go_eqT0, go_bl, go_tru, go_ixT, go_ixL, go_ixR, go_lenT, go_lenL, go_lenR, go_listT, go_max2, go_min2, go_if, gos_ifB, ifB_t, ifB_f,
  atI0, atI1, atI2, M.opt_some, Option.map_some, Bool.not_true, Bool.not_false, mSlice, mPart0, mRev, go_part, go_neg, go_slT, go_revT, go_rng1, asg, exists_eq_left', Option.some.injEq, D.int.injEq, List.cons.injEq, and_true, true_and, this, decide_false]
      cases x <;> simp [twB, hl]
theorem sh_inp {d : D} (h : shB "in" 2 d = true) : ∃ x y, d = .tup [.str x, y] ∧ x = "in" := by
  unfold shB at h
  split at h
  · rename_i x l
    obtain ⟨h1, h2⟩ := and2 h
    have h1 := of_decide_eq_true h1
    match l, h1 with
    | [y], _ => exact ⟨x, y, rfl, of_decide_eq_true h2⟩
  · cases h
theorem sh_not {d : D} (h : shB "in" 2 d = false) : inpB d = false := by
  unfold inpB
  split
  · rename_i x y
    unfold shB at h
    simp only [List.length_singleton, Nat.reduceAdd, decide_true, Bool.true_and] at h
    rw [h]
    rfl
  · rfl
theorem sp4 {d : D} (h : d.solid = true) : Go (cD (n + 3) 4 [d]) st R = R (.ok (.bl (inpB d)) st) := by
  rw [cD, go_call (f := f4) rfl rfl]
  show GoS (evSs _ _ b_is_input) _ _ _ = _
  unfold b_is_input
  have e2 : ∀ st R, Go (cD (n + 2) 2 [d, .str "in", .int 2]) st R = R (.ok (.bl (shB "in" 2 d)) st) := fun st R => sp2 (n := n + 1) (k := 2) h (by omega)
  (rw [gos_cons]; simp only [gos_nil, evS, ev, evs, mArgs, mAnds, mOrs, tAnds, tOrs, Sm.of, Sm.bl, Sm.it, mVar, mCon, conD, mCall, mPrim, mBin, mChain, mAndV, mOrV, mAndT, mOrT, mNotV, mNotT, mIf, mNil, mCons, mTup, mLst, mDic, mYes,
  List.map_cons, List.map_nil, List.cons_append, List.nil_append, List.replicate, List.length_cons, List.length_nil, List.getElem?_cons_zero, List.getElem?_cons_succ, Option.join_some, List.set_cons_zero, List.set_cons_succ, Nat.reduceAdd, Nat.reduceSub, Nat.zero_add, Nat.add_zero,
  gos_seq, gos_next, gos_brk, gos_ct, gos_retN, gos_if, gos_asg, gos_ret, gos_drop, gos_par, gos_for, gos_setIx, kR_ok, kS_ok, kQ_nx, kQ_rt, kQ_bk, kQ_ct, kQ_ex, kC_rt, kC_nx, kC_ex,
  go_ret, go_some, go_bind, go_add, go_sub, go_mul, go_mod, go_div, go_pow, go_shl, go_lt, go_le, go_gt, go_ge, go_eq, go_eqS, go_ne, go_neS, go_eqB, go_eqT0, go_bl, go_tru, go_ixT, go_ixL, go_ixR, go_lenT, go_lenL, go_lenR, go_listT, go_max2, go_min2, go_if, gos_ifB, ifB_t, ifB_f,
  atI0, atI1, atI2, M.opt_some, Option.map_some, Bool.not_true, Bool.not_false, mSlice, mPart0, mRev, go_part, go_neg, go_slT, go_revT, go_rng1, asg, exists_eq_left', Option.some.injEq, D.int.injEq, List.cons.injEq, and_true, true_and, cell0, e2])
  cases q : shB "in" 2 d with
  | false => simp only [gos_nil, evS, ev, evs, mArgs, mAnds, mOrs, tAnds, tOrs, Sm.of, Sm.bl, Sm.it, mVar, mCon, conD, mCall, mPrim, mBin, mChain, mAndV, mOrV, mAndT, mOrT, mNotV, mNotT, mIf, mNil, mCons, mTup, mLst, mDic, mYes,
  List.map_cons, List.map_nil, List.cons_append, List.nil_append, List.replicate, List.length_cons, List.length_nil, List.getElem?_cons_zero, List.getElem?_cons_succ, Option.join_some, List.set_cons_zero, List.set_cons_succ, Nat.reduceAdd, Nat.reduceSub, Nat.zero_add, Nat.add_zero,
  gos_seq, gos_next, gos_brk, gos_ct, gos_retN, gos_if, gos_asg, gos_ret, gos_drop, gos_par, gos_for, gos_setIx, kR_ok, kS_ok, kQ_nx, kQ_rt, kQ_bk, kQ_ct, kQ_ex, kC_rt, kC_nx, kC_ex,
  go_ret, go_some, go_bind, go_add, go_sub, go_mul, go_mod, go_div, go_pow, go_shl, go_lt, go_le, go_gt, go_ge, go_eq, go_eqS, go_ne, go_neS, go_eqB, go_eqT0, go_bl, go_tru, go_ixT, go_ixL, go_ixR, go_lenT, go_lenL, go_lenR, go_listT, go_max2, go_min2, go_if, gos_ifB, ifB_t, ifB_f,
  atI0, atI1, atI2, M.opt_some, Option.map_some, Bool.not_true, Bool.not_false, mSlice, mPart0, mRev, go_part, go_neg, go_slT, go_revT, go_rng1, asg, exists_eq_left', Option.some.injEq, D.int.injEq, List.cons.injEq, and_true, true_and, sh_not q]
  | true =>
    obtain ⟨x, y, rfl, rfl⟩ := sh_inp q
    have hy : y.solid = true := by
      unfold D.solid D.solidL D.solidL at h
      exact (and2 (and2 h).2).1
    simp only [gos_nil, evS, ev, evs, mArgs, mAnds, mOrs, tAnds, tOrs, Sm.of, Sm.bl, Sm.it, mVar, mCon, conD, mCall, mPrim, mBin, mChain, mAndV, mOrV, mAndT, mOrT, mNotV, mNotT, mIf, mNil, mCons, mTup, mLst, mDic, mYes,
  List.map_cons, List.map_nil, List.cons_append, List.nil_append, List.replicate, List.length_cons, List.length_nil, List.getElem?_cons_zero, List.getElem?_cons_succ, Option.join_some, List.set_cons_zero, List.set_cons_succ, Nat.reduceAdd, Nat.reduceSub, Nat.zero_add, Nat.add_zero,
  gos_seq, gos_next, gos_brk, gos_ct, gos_retN, gos_if, gos_asg, gos_ret, gos_drop, gos_par, gos_for, gos_setIx, kR_ok, kS_ok, kQ_nx, kQ_rt, kQ_bk, kQ_ct, kQ_ex, kC_rt, kC_nx, kC_ex,
  go_ret, go_some, go_bind, go_add, go_sub, go_mul, go_mod, go_div, go_pow, go_shl, go_lt, go_le, go_gt, go_ge, go_eq, go_eqS, go_ne, go_neS, go_eqB, go_eqT0, go_bl, go_tru, go_ixT, go_ixL, go_ixR, go_lenT, go_lenL, go_lenR, go_listT, go_max2, go_min2, go_if, gos_ifB, ifB_t, ifB_f,
  atI0, atI1, atI2, M.opt_some, Option.map_some, Bool.not_true, Bool.not_false, mSlice, mPart0, mRev, go_part, go_neg, go_slT, go_revT, go_rng1, asg, exists_eq_left', Option.some.injEq, D.int.injEq, List.cons.injEq, and_true, true_and, lkI, sp1 (n := n) hy, inpB, decide_true, Bool.true_and]
theorem sp5 {d : D} (h : d.solid = true) : Go (cD (n + 4) 5 [d]) st R = R (.ok (.bl (leafB d)) st) := by
  rw [cD, go_call (f := f5) rfl rfl]
  show GoS (evSs _ _ b_is_leaf) _ _ _ = _
  unfold b_is_leaf
  have e1 : ∀ st R, Go (cD (n + 3) 1 [d, .int 0, .int 63]) st R = R (.ok (.bl (ftB 0 63 d)) st) := fun st R => sp1 (n := n + 1) h
  (rw [gos_cons]; simp only [gos_nil, evS, ev, evs, mArgs, mAnds, mOrs, tAnds, tOrs, Sm.of, Sm.bl, Sm.it, mVar, mCon, conD, mCall, mPrim, mBin, mChain, mAndV, mOrV, mAndT, mOrT, mNotV, mNotT, mIf, mNil, mCons, mTup, mLst, mDic, mYes,
  List.map_cons, List.map_nil, List.cons_append, List.nil_append, List.replicate, List.length_cons, List.length_nil, List.getElem?_cons_zero, List.getElem?_cons_succ, Option.join_some, List.set_cons_zero, List.set_cons_succ, Nat.reduceAdd, Nat.reduceSub, Nat.zero_add, Nat.add_zero,
  gos_seq, gos_next, gos_brk, gos_ct, gos_retN, gos_if, gos_asg, gos_ret, gos_drop, gos_par, gos_for, gos_setIx, kR_ok, kS_ok, kQ_nx, kQ_rt, kQ_bk, kQ_ct, kQ_ex, kC_rt, kC_nx, kC_ex,
  go_ret, go_some, go_bind, go_add, go_sub, go_mul, go_mod, go_div, go_pow, go_shl, go_lt, go_le, go_gt, go_ge, go_eq, go_eqS, go_ne, go_neS, go_eqB, go_eqT0, go_bl, go_tru, go_ixT, go_ixL, go_ixR, go_lenT, go_lenL, go_lenR, go_listT, go_max2, go_min2, go_if, gos_ifB, ifB_t, ifB_f,
  atI0, atI1, atI2, M.opt_some, Option.map_some, Bool.not_true, Bool.not_false, mSlice, mPart0, mRev, go_part, go_neg, go_slT, go_revT, go_rng1, asg, exists_eq_left', Option.some.injEq, D.int.injEq, List.cons.injEq, and_true, true_and, cell0, lkL, e1, leafB])
  cases q : ftB 0 63 d with
  | true => simp only [gos_nil, evS, ev, evs, mArgs, mAnds, mOrs, tAnds, tOrs, Sm.of, Sm.bl, Sm.it, mVar, mCon, conD, mCall, mPrim, mBin, mChain, mAndV, mOrV, mAndT, mOrT, mNotV, mNotT, mIf, mNil, mCons, mTup, mLst, mDic, mYes,
  List.map_cons, List.map_nil, List.cons_append, List.nil_append, List.replicate, List.length_cons, List.length_nil, List.getElem?_cons_zero, List.getElem?_cons_succ, Option.join_some, List.set_cons_zero, List.set_cons_succ, Nat.reduceAdd, Nat.reduceSub, Nat.zero_add, Nat.add_zero,
  gos_seq, gos_next, gos_brk, gos_ct, gos_retN, gos_if, gos_asg, gos_ret, gos_drop, gos_par, gos_for, gos_setIx, kR_ok, kS_ok, kQ_nx, kQ_rt, kQ_bk, kQ_ct, kQ_ex, kC_rt, kC_nx, kC_ex,
  go_ret, go_some, go_bind, go_add, go_sub, go_mul, go_mod, go_div, go_pow, go_shl, go_lt, go_le, go_gt, go_ge, go_eq, go_eqS, go_ne, go_neS, go_eqB, go_eqT0, go_bl, go_tru, go_ixT, go_ixL, go_ixR, go_lenT, go_lenL, go_lenR, go_listT, go_max2, go_min2, go_if, gos_ifB, ifB_t, ifB_f,
  atI0, atI1, atI2, M.opt_some, Option.map_some, Bool.not_true, Bool.not_false, mSlice, mPart0, mRev, go_part, go_neg, go_slT, go_revT, go_rng1, asg, exists_eq_left', Option.some.injEq, D.int.injEq, List.cons.injEq, and_true, true_and, Bool.true_or]
  | false => simp only [gos_nil, evS, ev, evs, mArgs, mAnds, mOrs, tAnds, tOrs, Sm.of, Sm.bl, Sm.it, mVar, mCon, conD, mCall, mPrim, mBin, mChain, mAndV, mOrV, mAndT, mOrT, mNotV, mNotT, mIf, mNil, mCons, mTup, mLst, mDic, mYes,
  List.map_cons, List.map_nil, List.cons_append, List.nil_append, List.replicate, List.length_cons, List.length_nil, List.getElem?_cons_zero, List.getElem?_cons_succ, Option.join_some, List.set_cons_zero, List.set_cons_succ, Nat.reduceAdd, Nat.reduceSub, Nat.zero_add, Nat.add_zero,
  gos_seq, gos_next, gos_brk, gos_ct, gos_retN, gos_if, gos_asg, gos_ret, gos_drop, gos_par, gos_for, gos_setIx, kR_ok, kS_ok, kQ_nx, kQ_rt, kQ_bk, kQ_ct, kQ_ex, kC_rt, kC_nx, kC_ex,
  go_ret, go_some, go_bind, go_add, go_sub, go_mul, go_mod, go_div, go_pow, go_shl, go_lt, go_le, go_gt, go_ge, go_eq, go_eqS, go_ne, go_neS, go_eqB, go_eqT0, go_bl, go_tru, go_ixT, go_ixL, go_ixR, go_lenT, go_lenL, go_lenR, go_listT, go_max2, go_min2, go_if, gos_ifB, ifB_t, ifB_f,
  atI0, atI1, atI2, M.opt_some, Option.map_some, Bool.not_true, Bool.not_false, mSlice, mPart0, mRev, go_part, go_neg, go_slT, go_revT, go_rng1, asg, exists_eq_left', Option.some.injEq, D.int.injEq, List.cons.injEq, and_true, true_and, Bool.false_or, sp4 (n := n) h]
theorem leaf_tup {l : List D} : ftB 0 63 (.tup l) = false := rfl
theorem i18_t {d : D} (h : d.solid = true) (q : ftB 0 63 d = true) : Go (cD (n + 5) 18 [d]) st R = R (.ok (.int 0) st) := by
  rw [cD, go_call (f := f18) rfl rfl]
  show GoS (evSs _ _ b_law_inners) _ _ _ = _
  unfold b_law_inners
  have e : ∀ st R, Go (cD (n + 4) 13 [d, .int 0, .int 63]) st R = R (.ok (.bl (ftB 0 63 d)) st) := fun st R => sp13 (n := n + 2) h
  (rw [gos_cons]; simp only [gos_nil, evS, ev, evs, mArgs, mAnds, mOrs, tAnds, tOrs, Sm.of, Sm.bl, Sm.it, mVar, mCon, conD, mCall, mPrim, mBin, mChain, mAndV, mOrV, mAndT, mOrT, mNotV, mNotT, mIf, mNil, mCons, mTup, mLst, mDic, mYes,
  List.map_cons, List.map_nil, List.cons_append, List.nil_append, List.replicate, List.length_cons, List.length_nil, List.getElem?_cons_zero, List.getElem?_cons_succ, Option.join_some, List.set_cons_zero, List.set_cons_succ, Nat.reduceAdd, Nat.reduceSub, Nat.zero_add, Nat.add_zero,
  gos_seq, gos_next, gos_brk, gos_ct, gos_retN, gos_if, gos_asg, gos_ret, gos_drop, gos_par, gos_for, gos_setIx, kR_ok, kS_ok, kQ_nx, kQ_rt, kQ_bk, kQ_ct, kQ_ex, kC_rt, kC_nx, kC_ex,
  go_ret, go_some, go_bind, go_add, go_sub, go_mul, go_mod, go_div, go_pow, go_shl, go_lt, go_le, go_gt, go_ge, go_eq, go_eqS, go_ne, go_neS, go_eqB, go_eqT0, go_bl, go_tru, go_ixT, go_ixL, go_ixR, go_lenT, go_lenL, go_lenR, go_listT, go_max2, go_min2, go_if, gos_ifB, ifB_t, ifB_f,
  atI0, atI1, atI2, M.opt_some, Option.map_some, Bool.not_true, Bool.not_false, mSlice, mPart0, mRev, go_part, go_neg, go_slT, go_revT, go_rng1, asg, exists_eq_left', Option.some.injEq, D.int.injEq, List.cons.injEq, and_true, true_and, cell0, e, q])
  (rw [gos_cons]; simp only [gos_nil, evS, ev, evs, mArgs, mAnds, mOrs, tAnds, tOrs, Sm.of, Sm.bl, Sm.it, mVar, mCon, conD, mCall, mPrim, mBin, mChain, mAndV, mOrV, mAndT, mOrT, mNotV, mNotT, mIf, mNil, mCons, mTup, mLst, mDic, mYes,
  List.map_cons, List.map_nil, List.cons_append, List.nil_append, List.replicate, List.length_cons, List.length_nil, List.getElem?_cons_zero, List.getElem?_cons_succ, Option.join_some, List.set_cons_zero, List.set_cons_succ, Nat.reduceAdd, Nat.reduceSub, Nat.zero_add, Nat.add_zero,
  gos_seq, gos_next, gos_brk, gos_ct, gos_retN, gos_if, gos_asg, gos_ret, gos_drop, gos_par, gos_for, gos_setIx, kR_ok, kS_ok, kQ_nx, kQ_rt, kQ_bk, kQ_ct, kQ_ex, kC_rt, kC_nx, kC_ex,
  go_ret, go_some, go_bind, go_add, go_sub, go_mul, go_mod, go_div, go_pow, go_shl, go_lt, go_le, go_gt, go_ge, go_eq, go_eqS, go_ne, go_neS, go_eqB, go_eqT0, go_bl, go_tru, go_ixT, go_ixL, go_ixR, go_lenT, go_lenL, go_lenR, go_listT, go_max2, go_min2, go_if, gos_ifB, ifB_t, ifB_f,
  atI0, atI1, atI2, M.opt_some, Option.map_some, Bool.not_true, Bool.not_false, mSlice, mPart0, mRev, go_part, go_neg, go_slT, go_revT, go_rng1, asg, exists_eq_left', Option.some.injEq, D.int.injEq, List.cons.injEq, and_true, true_and])
theorem i18_n {d : D} (h : d.solid = true) (q : ftB 0 63 d = false) (ht : isaB d "tuple" = false) : Go (cD (n + 5) 18 [d]) st R = R (.ok (.int 99) st) := by
  rw [cD, go_call (f := f18) rfl rfl]
  show GoS (evSs _ _ b_law_inners) _ _ _ = _
  unfold b_law_inners
  have e : ∀ st R, Go (cD (n + 4) 13 [d, .int 0, .int 63]) st R = R (.ok (.bl (ftB 0 63 d)) st) := fun st R => sp13 (n := n + 2) h
  (rw [gos_cons]; simp only [gos_nil, evS, ev, evs, mArgs, mAnds, mOrs, tAnds, tOrs, Sm.of, Sm.bl, Sm.it, mVar, mCon, conD, mCall, mPrim, mBin, mChain, mAndV, mOrV, mAndT, mOrT, mNotV, mNotT, mIf, mNil, mCons, mTup, mLst, mDic, mYes,
  List.map_cons, List.map_nil, List.cons_append, List.nil_append, List.replicate, List.length_cons, List.length_nil, List.getElem?_cons_zero, List.getElem?_cons_succ, Option.join_some, List.set_cons_zero, List.set_cons_succ, Nat.reduceAdd, Nat.reduceSub, Nat.zero_add, Nat.add_zero,
  gos_seq, gos_next, gos_brk, gos_ct, gos_retN, gos_if, gos_asg, gos_ret, gos_drop, gos_par, gos_for, gos_setIx, kR_ok, kS_ok, kQ_nx, kQ_rt, kQ_bk, kQ_ct, kQ_ex, kC_rt, kC_nx, kC_ex,
  go_ret, go_some, go_bind, go_add, go_sub, go_mul, go_mod, go_div, go_pow, go_shl, go_lt, go_le, go_gt, go_ge, go_eq, go_eqS, go_ne, go_neS, go_eqB, go_eqT0, go_bl, go_tru, go_ixT, go_ixL, go_ixR, go_lenT, go_lenL, go_lenR, go_listT, go_max2, go_min2, go_if, gos_ifB, ifB_t, ifB_f,
  atI0, atI1, atI2, M.opt_some, Option.map_some, Bool.not_true, Bool.not_false, mSlice, mPart0, mRev, go_part, go_neg, go_slT, go_revT, go_rng1, asg, exists_eq_left', Option.some.injEq, D.int.injEq, List.cons.injEq, and_true, true_and, cell0, e, q])
  (rw [gos_cons]; simp only [gos_nil, evS, ev, evs, mArgs, mAnds, mOrs, tAnds, tOrs, Sm.of, Sm.bl, Sm.it, mVar, mCon, conD, mCall, mPrim, mBin, mChain, mAndV, mOrV, mAndT, mOrT, mNotV, mNotT, mIf, mNil, mCons, mTup, mLst, mDic, mYes,
  List.map_cons, List.map_nil, List.cons_append, List.nil_append, List.replicate, List.length_cons, List.length_nil, List.getElem?_cons_zero, List.getElem?_cons_succ, Option.join_some, List.set_cons_zero, List.set_cons_succ, Nat.reduceAdd, Nat.reduceSub, Nat.zero_add, Nat.add_zero,
  gos_seq, gos_next, gos_brk, gos_ct, gos_retN, gos_if, gos_asg, gos_ret, gos_drop, gos_par, gos_for, gos_setIx, kR_ok, kS_ok, kQ_nx, kQ_rt, kQ_bk, kQ_ct, kQ_ex, kC_rt, kC_nx, kC_ex,
  go_ret, go_some, go_bind, go_add, go_sub, go_mul, go_mod, go_div, go_pow, go_shl, go_lt, go_le, go_gt, go_ge, go_eq, go_eqS, go_ne, go_neS, go_eqB, go_eqT0, go_bl, go_tru, go_ixT, go_ixL, go_ixR, go_lenT, go_lenL, go_lenR, go_listT, go_max2, go_min2, go_if, gos_ifB, ifB_t, ifB_f,
  atI0, atI1, atI2, M.opt_some, Option.map_some, Bool.not_true, Bool.not_false, mSlice, mPart0, mRev, go_part, go_neg, go_slT, go_revT, go_rng1, asg, exists_eq_left', Option.some.injEq, D.int.injEq, List.cons.injEq, and_true, true_and, go_isa d _ (tyN_of h) nm_tuple, ht])
  (rw [gos_cons]; simp only [gos_nil, evS, ev, evs, mArgs, mAnds, mOrs, tAnds, tOrs, Sm.of, Sm.bl, Sm.it, mVar, mCon, conD, mCall, mPrim, mBin, mChain, mAndV, mOrV, mAndT, mOrT, mNotV, mNotT, mIf, mNil, mCons, mTup, mLst, mDic, mYes,
  List.map_cons, List.map_nil, List.cons_append, List.nil_append, List.replicate, List.length_cons, List.length_nil, List.getElem?_cons_zero, List.getElem?_cons_succ, Option.join_some, List.set_cons_zero, List.set_cons_succ, Nat.reduceAdd, Nat.reduceSub, Nat.zero_add, Nat.add_zero,
  gos_seq, gos_next, gos_brk, gos_ct, gos_retN, gos_if, gos_asg, gos_ret, gos_drop, gos_par, gos_for, gos_setIx, kR_ok, kS_ok, kQ_nx, kQ_rt, kQ_bk, kQ_ct, kQ_ex, kC_rt, kC_nx, kC_ex,
  go_ret, go_some, go_bind, go_add, go_sub, go_mul, go_mod, go_div, go_pow, go_shl, go_lt, go_le, go_gt, go_ge, go_eq, go_eqS, go_ne, go_neS, go_eqB, go_eqT0, go_bl, go_tru, go_ixT, go_ixL, go_ixR, go_lenT, go_lenL, go_lenR, go_listT, go_max2, go_min2, go_if, gos_ifB, ifB_t, ifB_f,
  atI0, atI1, atI2, M.opt_some, Option.map_some, Bool.not_true, Bool.not_false, mSlice, mPart0, mRev, go_part, go_neg, go_slT, go_revT, go_rng1, asg, exists_eq_left', Option.some.injEq, D.int.injEq, List.cons.injEq, and_true, true_and])
theorem isaT (l : List D) : isaB (.tup l) "tuple" = true := by rfl
theorem isaS (z : Str) : isaB (.str z) "str" = true := by rfl
theorem i18_l {l : List D} (h : (D.tup l).solid = true) (hl : l.length < 2 ∨ 3 < l.length) : Go (cD (n + 5) 18 [.tup l]) st R = R (.ok (.int 99) st) := by
  rw [cD, go_call (f := f18) rfl rfl]
  show GoS (evSs _ _ b_law_inners) _ _ _ = _
  unfold b_law_inners
  have e : ∀ st R, Go (cD (n + 4) 13 [.tup l, .int 0, .int 63]) st R = R (.ok (.bl (ftB 0 63 (.tup l))) st) := fun st R => sp13 (n := n + 2) h
  (rw [gos_cons]; simp only [gos_nil, evS, ev, evs, mArgs, mAnds, mOrs, tAnds, tOrs, Sm.of, Sm.bl, Sm.it, mVar, mCon, conD, mCall, mPrim, mBin, mChain, mAndV, mOrV, mAndT, mOrT, mNotV, mNotT, mIf, mNil, mCons, mTup, mLst, mDic, mYes,
  List.map_cons, List.map_nil, List.cons_append, List.nil_append, List.replicate, List.length_cons, List.length_nil, List.getElem?_cons_zero, List.getElem?_cons_succ, Option.join_some, List.set_cons_zero, List.set_cons_succ, Nat.reduceAdd, Nat.reduceSub, Nat.zero_add, Nat.add_zero,
  gos_seq, gos_next, gos_brk, gos_ct, gos_retN, gos_if, gos_asg, gos_ret, gos_drop, gos_par, gos_for, gos_setIx, kR_ok, kS_ok, kQ_nx, kQ_rt, kQ_bk, kQ_ct, kQ_ex, kC_rt, kC_nx, kC_ex,
  go_ret, go_some, go_bind, go_add, go_sub, go_mul, go_mod, go_div, go_pow, go_shl, go_lt, go_le, go_gt, go_ge, go_eq, go_eqS, go_ne, go_neS, go_eqB, go_eqT0, go_bl, go_tru, go_ixT, go_ixL, go_ixR, go_lenT, go_lenL, go_lenR, go_listT, go_max2, go_min2, go_if, gos_ifB, ifB_t, ifB_f,
  atI0, atI1, atI2, M.opt_some, Option.map_some, Bool.not_true, Bool.not_false, mSlice, mPart0, mRev, go_part, go_neg, go_slT, go_revT, go_rng1, asg, exists_eq_left', Option.some.injEq, D.int.injEq, List.cons.injEq, and_true, true_and, cell0, e, leaf_tup])
  (rw [gos_cons]; simp only [gos_nil, evS, ev, evs, mArgs, mAnds, mOrs, tAnds, tOrs, Sm.of, Sm.bl, Sm.it, mVar, mCon, conD, mCall, mPrim, mBin, mChain, mAndV, mOrV, mAndT, mOrT, mNotV, mNotT, mIf, mNil, mCons, mTup, mLst, mDic, mYes,
  List.map_cons, List.map_nil, List.cons_append, List.nil_append, List.replicate, List.length_cons, List.length_nil, List.getElem?_cons_zero, List.getElem?_cons_succ, Option.join_some, List.set_cons_zero, List.set_cons_succ, Nat.reduceAdd, Nat.reduceSub, Nat.zero_add, Nat.add_zero,
  gos_seq, gos_next, gos_brk, gos_ct, gos_retN, gos_if, gos_asg, gos_ret, gos_drop, gos_par, gos_for, gos_setIx, kR_ok, kS_ok, kQ_nx, kQ_rt, kQ_bk, kQ_ct, kQ_ex, kC_rt, kC_nx, kC_ex,
  go_ret, go_some, go_bind, go_add, go_sub, go_mul, go_mod, go_div, go_pow, go_shl, go_lt, go_le, go_gt, go_ge, go_eq, go_eqS, go_ne, go_neS, go_eqB, go_eqT0, go_bl, go_tru, go_ixT, go_ixL, go_ixR, go_lenT, go_lenL, go_lenR, go_listT, go_max2, go_min2, go_if, gos_ifB, ifB_t, ifB_f,
  atI0, atI1, atI2, M.opt_some, Option.map_some, Bool.not_true, Bool.not_false, mSlice, mPart0, mRev, go_part, go_neg, go_slT, go_revT, go_rng1, asg, exists_eq_left', Option.some.injEq, D.int.injEq, List.cons.injEq, and_true, true_and, go_isa _ _ (tyN_of h) nm_tuple, isaT])
  rcases hl with hl | hl
  · have : ¬ (2 : Int) ≤ (l.length : Int) := by omega
    simp only [gos_nil, evS, ev, evs, mArgs, mAnds, mOrs, tAnds, tOrs, Sm.of, Sm.bl, Sm.it, mVar, mCon, conD, mCall, mPrim, mBin, mChain, mAndV, mOrV, mAndT, mOrT, mNotV, mNotT, mIf, mNil, mCons, mTup, mLst, mDic, mYes,
  List.map_cons, List.map_nil, List.cons_append, List.nil_append, List.replicate, List.length_cons, List.length_nil, List.getElem?_cons_zero, List.getElem?_cons_succ, Option.join_some, List.set_cons_zero, List.set_cons_succ, Nat.reduceAdd, Nat.reduceSub, Nat.zero_add, Nat.add_zero,
  gos_seq, gos_next, gos_brk, gos_ct, gos_retN, gos_if, gos_asg, gos_ret, gos_drop, gos_par, gos_for, gos_setIx, kR_ok, kS_ok, kQ_nx, kQ_rt, kQ_bk, kQ_ct, kQ_ex, kC_rt, kC_nx, kC_ex,
  go_ret, go_some, go_bind, go_add, go_sub, go_mul, go_mod, go_div, go_pow, go_shl, go_lt, go_le, go_gt, go_ge, go_eq, go_eqS, go_ne, go_neS, go_eqB, go_eqT0, go_bl, go_tru, go_ixT, go_ixL, go_ixR, go_lenT, go_lenL, go_lenR, go_listT, go_max2, go_min2, go_if, gos_ifB, ifB_t, ifB_f,
  atI0, atI1, atI2, M.opt_some, Option.map_some, Bool.not_true, Bool.not_false, mSlice, mPart0, mRev, go_part, go_neg, go_slT, go_revT, go_rng1, asg, exists_eq_left', Option.some.injEq, D.int.injEq, List.cons.injEq, and_true, true_and, this, decide_false]
    (rw [gos_cons]; simp only [gos_nil, evS, ev, evs, mArgs, mAnds, mOrs, tAnds, tOrs, Sm.of, Sm.bl, Sm.it, mVar, mCon, conD, mCall, mPrim, mBin, mChain, mAndV, mOrV, mAndT, mOrT, mNotV, mNotT, mIf, mNil, mCons, mTup, mLst, mDic, mYes,
  List.map_cons, List.map_nil, List.cons_append, List.nil_append, List.replicate, List.length_cons, List.length_nil, List.getElem?_cons_zero, List.getElem?_cons_succ, Option.join_some, List.set_cons_zero, List.set_cons_succ, Nat.reduceAdd, Nat.reduceSub, Nat.zero_add, Nat.add_zero,
  gos_seq, gos_next, gos_brk, gos_ct, gos_retN, gos_if, gos_asg, gos_ret, gos_drop, gos_par, gos_for, gos_setIx, kR_ok, kS_ok, kQ_nx, kQ_rt, kQ_bk, kQ_ct, kQ_ex, kC_rt, kC_nx, kC_ex,
  go_ret, go_some, go_bind, go_add, go_sub, go_mul, go_mod, go_div, go_pow, go_shl, go_lt, go_le, go_gt, go_ge, go_eq, go_eqS, go_ne, go_neS, go_eqB, go_eqT0, go_bl, go_tru, go_ixT, go_ixL, go_ixR, go_lenT, go_lenL, go_lenR, go_listT, go_max2, go_min2, go_if, gos_ifB, ifB_t, ifB_f,
  atI0, atI1, atI2, M.opt_some, Option.map_some, Bool.not_true, Bool.not_false, mSlice, mPart0, mRev, go_part, go_neg, go_slT, go_revT, go_rng1, asg, exists_eq_left', Option.some.injEq, D.int.injEq, List.cons.injEq, and_true, true_and])
  · have h1 : (2 : Int) ≤ (l.length : Int) := by omega
    have h2 : ¬ (l.length : Int) ≤ 3 := by omega
    simp only [gos_nil, evS, ev, evs, mArgs, mAnds, mOrs, tAnds, tOrs, Sm.of, Sm.bl, Sm.it, mVar, mCon, conD, mCall, mPrim, mBin, mChain, mAndV, mOrV, mAndT, mOrT, mNotV, mNotT, mIf, mNil, mCons, mTup, mLst, mDic, mYes,
  List.map_cons, List.map_nil, List.cons_append, List.nil_append, List.replicate, List.length_cons, List.length_nil, List.getElem?_cons_zero, List.getElem?_cons_succ, Option.join_some, List.set_cons_zero, List.set_cons_succ, Nat.reduceAdd, Nat.reduceSub, Nat.zero_add, Nat.add_zero,
  gos_seq, gos_next, gos_brk, gos_ct, gos_retN, gos_if, gos_asg, gos_ret, gos_drop, gos_par, gos_for, gos_setIx, kR_ok, kS_ok, kQ_nx, kQ_rt, kQ_bk, kQ_ct, kQ_ex, kC_rt, kC_nx, kC_ex,
  go_ret, go_some, go_bind, go_add, go_sub, go_mul, go_mod, go_div, go_pow, go_shl, go_lt, go_le, go_gt, go_ge, go_eq, go_eqS, go_ne, go_neS, go_eqB, go_eqT0, go_bl, go_tru, go_ixT, go_ixL, go_ixR, go_lenT, go_lenL, go_lenR, go_listT, go_max2, go_min2, go_if, gos_ifB, ifB_t, ifB_f,
  atI0, atI1, atI2, M.opt_some, Option.map_some, Bool.not_true, Bool.not_false, mSlice, mPart0, mRev, go_part, go_neg, go_slT, go_revT, go_rng1, asg, exists_eq_left', Option.some.injEq, D.int.injEq, List.cons.injEq, and_true, true_and, h1, h2, decide_true, decide_false]
    (rw [gos_cons]; simp only [gos_nil, evS, ev, evs, mArgs, mAnds, mOrs, tAnds, tOrs, Sm.of, Sm.bl, Sm.it, mVar, mCon, conD, mCall, mPrim, mBin, mChain, mAndV, mOrV, mAndT, mOrT, mNotV, mNotT, mIf, mNil, mCons, mTup, mLst, mDic, mYes,
  List.map_cons, List.map_nil, List.cons_append, List.nil_append, List.replicate, List.length_cons, List.length_nil, List.getElem?_cons_zero, List.getElem?_cons_succ, Option.join_some, List.set_cons_zero, List.set_cons_succ, Nat.reduceAdd, Nat.reduceSub, Nat.zero_add, Nat.add_zero,
  gos_seq, gos_next, gos_brk, gos_ct, gos_retN, gos_if, gos_asg, gos_ret, gos_drop, gos_par, gos_for, gos_setIx, kR_ok, kS_ok, kQ_nx, kQ_rt, kQ_bk, kQ_ct, kQ_ex, kC_rt, kC_nx, kC_ex,
  go_ret, go_some, go_bind, go_add, go_sub, go_mul, go_mod, go_div, go_pow, go_shl, go_lt, go_le, go_gt, go_ge, go_eq, go_eqS, go_ne, go_neS, go_eqB, go_eqT0, go_bl, go_tru, go_ixT, go_ixL, go_ixR, go_lenT, go_lenL, go_lenR, go_listT, go_max2, go_min2, go_if, gos_ifB, ifB_t, ifB_f,
  atI0, atI1, atI2, M.opt_some, Option.map_some, Bool.not_true, Bool.not_false, mSlice, mPart0, mRev, go_part, go_neg, go_slT, go_revT, go_rng1, asg, exists_eq_left', Option.some.injEq, D.int.injEq, List.cons.injEq, and_true, true_and])
theorem i18_s {x : D} {l : List D} (h : (D.tup (x :: l)).solid = true) (hl : l.length = 1 ∨ l.length = 2) (hx : isaB x "str" = false) : Go (cD (n + 5) 18 [.tup (x :: l)]) st R = R (.ok (.int 99) st) := by
  rw [cD, go_call (f := f18) rfl rfl]
  show GoS (evSs _ _ b_law_inners) _ _ _ = _
  unfold b_law_inners
  have e : ∀ st R, Go (cD (n + 4) 13 [.tup (x :: l), .int 0, .int 63]) st R = R (.ok (.bl (ftB 0 63 (.tup (x :: l)))) st) := fun st R => sp13 (n := n + 2) h
  have hs : x.solid = true := by
    unfold D.solid D.solidL at h
    exact (and2 h).1
  have h1 : (2 : Int) ≤ ((l.length + 1 : Nat) : Int) := by omega
  have h2 : ((l.length + 1 : Nat) : Int) ≤ 3 := by omega
  (rw [gos_cons]; simp only [gos_nil, evS, ev, evs, mArgs, mAnds, mOrs, tAnds, tOrs, Sm.of, Sm.bl, Sm.it, mVar, mCon, conD, mCall, mPrim, mBin, mChain, mAndV, mOrV, mAndT, mOrT, mNotV, mNotT, mIf, mNil, mCons, mTup, mLst, mDic, mYes,
  List.map_cons, List.map_nil, List.cons_append, List.nil_append, List.replicate, List.length_cons, List.length_nil, List.getElem?_cons_zero, List.getElem?_cons_succ, Option.join_some, List.set_cons_zero, List.set_cons_succ, Nat.reduceAdd, Nat.reduceSub, Nat.zero_add, Nat.add_zero,
  gos_seq, gos_next, gos_brk, gos_ct, gos_retN, gos_if, gos_asg, gos_ret, gos_drop, gos_par, gos_for, gos_setIx, kR_ok, kS_ok, kQ_nx, kQ_rt, kQ_bk, kQ_ct, kQ_ex, kC_rt, kC_nx, kC_ex,
  go_ret, go_some, go_bind, go_add, go_sub, go_mul, go_mod, go_div, go_pow, go_shl, go_lt, go_le, go_gt, go_ge, go_eq, go_eqS, go_ne, go_neS, go_eqB, go_eqT0, go_bl, go_tru, go_ixT, go_ixL, go_ixR, go_lenT, go_lenL, go_lenR, go_listT, go_max2, go_min2, go_if, gos_ifB, ifB_t, ifB_f,
  atI0, atI1, atI2, M.opt_some, Option.map_some, Bool.not_true, Bool.not_false, mSlice, mPart0, mRev, go_part, go_neg, go_slT, go_revT, go_rng1, asg, exists_eq_left', Option.some.injEq, D.int.injEq, List.cons.injEq, and_true, true_and, cell0, e, leaf_tup])
  (rw [gos_cons]; simp only [gos_nil, evS, ev, evs, mArgs, mAnds, mOrs, tAnds, tOrs, Sm.of, Sm.bl, Sm.it, mVar, mCon, conD, mCall, mPrim, mBin, mChain, mAndV, mOrV, mAndT, mOrT, mNotV, mNotT, mIf, mNil, mCons, mTup, mLst, mDic, mYes,
  List.map_cons, List.map_nil, List.cons_append, List.nil_append, List.replicate, List.length_cons, List.length_nil, List.getElem?_cons_zero, List.getElem?_cons_succ, Option.join_some, List.set_cons_zero, List.set_cons_succ, Nat.reduceAdd, Nat.reduceSub, Nat.zero_add, Nat.add_zero,
  gos_seq, gos_next, gos_brk, gos_ct, gos_retN, gos_if, gos_asg, gos_ret, gos_drop, gos_par, gos_for, gos_setIx, kR_ok, kS_ok, kQ_nx, kQ_rt, kQ_bk, kQ_ct, kQ_ex, kC_rt, kC_nx, kC_ex,
  go_ret, go_some, go_bind, go_add, go_sub, go_mul, go_mod, go_div, go_pow, go_shl, go_lt, go_le, go_gt, go_ge, go_eq, go_eqS, go_ne, go_neS, go_eqB, go_eqT0, go_bl, go_tru, go_ixT, go_ixL, go_ixR, go_lenT, go_lenL, go_lenR, go_listT, go_max2, go_min2, go_if, gos_ifB, ifB_t, ifB_f,
  atI0, atI1, atI2, M.opt_some, Option.map_some, Bool.not_true, Bool.not_false, mSlice, mPart0, mRev, go_part, go_neg, go_slT, go_revT, go_rng1, asg, exists_eq_left', Option.some.injEq, D.int.injEq, List.cons.injEq, and_true, true_and, go_isa _ _ (tyN_of h) nm_tuple, isaT, h1, h2, decide_true, go_isa x _ (tyN_of hs) nm_str, hx])
  (rw [gos_cons]; simp only [gos_nil, evS, ev, evs, mArgs, mAnds, mOrs, tAnds, tOrs, Sm.of, Sm.bl, Sm.it, mVar, mCon, conD, mCall, mPrim, mBin, mChain, mAndV, mOrV, mAndT, mOrT, mNotV, mNotT, mIf, mNil, mCons, mTup, mLst, mDic, mYes,
  List.map_cons, List.map_nil, List.cons_append, List.nil_append, List.replicate, List.length_cons, List.length_nil, List.getElem?_cons_zero, List.getElem?_cons_succ, Option.join_some, List.set_cons_zero, List.set_cons_succ, Nat.reduceAdd, Nat.reduceSub, Nat.zero_add, Nat.add_zero,
  gos_seq, gos_next, gos_brk, gos_ct, gos_retN, gos_if, gos_asg, gos_ret, gos_drop, gos_par, gos_for, gos_setIx, kR_ok, kS_ok, kQ_nx, kQ_rt, kQ_bk, kQ_ct, kQ_ex, kC_rt, kC_nx, kC_ex,
  go_ret, go_some, go_bind, go_add, go_sub, go_mul, go_mod, go_div, go_pow, go_shl, go_lt, go_le, go_gt, go_ge, go_eq, go_eqS, go_ne, go_neS, go_eqB, go_eqT0, go_bl, go_tru, go_ixT, go_ixL, go_ixR, go_lenT, go_lenL, go_lenR, go_listT, go_max2, go_min2, go_if, gos_ifB, ifB_t, ifB_f,
  atI0, atI1, atI2, M.opt_some, Option.map_some, Bool.not_true, Bool.not_false, mSlice, mPart0, mRev, go_part, go_neg, go_slT, go_revT, go_rng1, asg, exists_eq_left', Option.some.injEq, D.int.injEq, List.cons.injEq, and_true, true_and])
theorem sol2 {x y : D} (h : (D.tup [x, y]).solid = true) : y.solid = true := by
  unfold D.solid D.solidL D.solidL at h
  exact (and2 (and2 h).2).1
theorem sol3 {x y z : D} (h : (D.tup [x, y, z]).solid = true) : y.solid = true ∧ z.solid = true := by
  unfold D.solid D.solidL D.solidL D.solidL at h
  exact ⟨(and2 (and2 h).2).1, (and2 (and2 (and2 h).2).2).1⟩
theorem i18_2 {w : Str} {y : D} {j : Int} (h : (D.tup [.str w, y]).solid = true) (hj : ∀ st R, Go (cD (n + 4) 18 [y]) st R = R (.ok (.int j) st)) : Go (cD (n + 5) 18 [.tup [.str w, y]]) st R = ifB (decide (w = "in")) (ifB (ftB 0 3 y) (R (.ok (.int 0) st)) (R (.ok (.int 99) st)))
    (ifB (decide (w = "not")) (R (.ok (.int (1 + j)) st)) (R (.ok (.int 99) st))) := by
  rw [cD, go_call (f := f18) rfl rfl]
  show GoS (evSs _ _ b_law_inners) _ _ _ = _
  unfold b_law_inners
  have e : ∀ st R, Go (cD (n + 4) 13 [.tup [.str w, y], .int 0, .int 63]) st R = R (.ok (.bl (ftB 0 63 (.tup [.str w, y]))) st) := fun st R => sp13 (n := n + 2) h
  have hy := sol2 h
  have e3 : ∀ st R, Go (cD (n + 4) 13 [y, .int 0, .int 3]) st R = R (.ok (.bl (ftB 0 3 y)) st) := fun st R => sp13 (n := n + 2) hy
  have h1 : (2 : Int) ≤ ((1 + 1 : Nat) : Int) := by omega
  have h2 : ((1 + 1 : Nat) : Int) ≤ 3 := by omega
  have h3 : ((1 + 1 : Nat) : Int) = 2 := by omega
  have hs : (D.str w).solid = true := rfl
  (rw [gos_cons]; simp only [gos_nil, evS, ev, evs, mArgs, mAnds, mOrs, tAnds, tOrs, Sm.of, Sm.bl, Sm.it, mVar, mCon, conD, mCall, mPrim, mBin, mChain, mAndV, mOrV, mAndT, mOrT, mNotV, mNotT, mIf, mNil, mCons, mTup, mLst, mDic, mYes,
  List.map_cons, List.map_nil, List.cons_append, List.nil_append, List.replicate, List.length_cons, List.length_nil, List.getElem?_cons_zero, List.getElem?_cons_succ, Option.join_some, List.set_cons_zero, List.set_cons_succ, Nat.reduceAdd, Nat.reduceSub, Nat.zero_add, Nat.add_zero,
  gos_seq, gos_next, gos_brk, gos_ct, gos_retN, gos_if, gos_asg, gos_ret, gos_drop, gos_par, gos_for, gos_setIx, kR_ok, kS_ok, kQ_nx, kQ_rt, kQ_bk, kQ_ct, kQ_ex, kC_rt, kC_nx, kC_ex,
  go_ret, go_some, go_bind, go_add, go_sub, go_mul, go_mod, go_div, go_pow, go_shl, go_lt, go_le, go_gt, go_ge, go_eq, go_eqS, go_ne, go_neS, go_eqB, go_eqT0, go_bl, go_tru, go_ixT, go_ixL, go_ixR, go_lenT, go_lenL, go_lenR, go_listT, go_max2, go_min2, go_if, gos_ifB, ifB_t, ifB_f,
  atI0, atI1, atI2, M.opt_some, Option.map_some, Bool.not_true, Bool.not_false, mSlice, mPart0, mRev, go_part, go_neg, go_slT, go_revT, go_rng1, asg, exists_eq_left', Option.some.injEq, D.int.injEq, List.cons.injEq, and_true, true_and, cell0, e, leaf_tup])
  (rw [gos_cons]; simp only [gos_nil, evS, ev, evs, mArgs, mAnds, mOrs, tAnds, tOrs, Sm.of, Sm.bl, Sm.it, mVar, mCon, conD, mCall, mPrim, mBin, mChain, mAndV, mOrV, mAndT, mOrT, mNotV, mNotT, mIf, mNil, mCons, mTup, mLst, mDic, mYes,
  List.map_cons, List.map_nil, List.cons_append, List.nil_append, List.replicate, List.length_cons, List.length_nil, List.getElem?_cons_zero, List.getElem?_cons_succ, Option.join_some, List.set_cons_zero, List.set_cons_succ, Nat.reduceAdd, Nat.reduceSub, Nat.zero_add, Nat.add_zero,
  gos_seq, gos_next, gos_brk, gos_ct, gos_retN, gos_if, gos_asg, gos_ret, gos_drop, gos_par, gos_for, gos_setIx, kR_ok, kS_ok, kQ_nx, kQ_rt, kQ_bk, kQ_ct, kQ_ex, kC_rt, kC_nx, kC_ex,
  go_ret, go_some, go_bind, go_add, go_sub, go_mul, go_mod, go_div, go_pow, go_shl, go_lt, go_le, go_gt, go_ge, go_eq, go_eqS, go_ne, go_neS, go_eqB, go_eqT0, go_bl, go_tru, go_ixT, go_ixL, go_ixR, go_lenT, go_lenL, go_lenR, go_listT, go_max2, go_min2, go_if, gos_ifB, ifB_t, ifB_f,
  atI0, atI1, atI2, M.opt_some, Option.map_some, Bool.not_true, Bool.not_false, mSlice, mPart0, mRev, go_part, go_neg, go_slT, go_revT, go_rng1, asg, exists_eq_left', Option.some.injEq, D.int.injEq, List.cons.injEq, and_true, true_and, go_isa _ _ (tyN_of h) nm_tuple, isaT, h1, h2, decide_true, go_isa (.str w) _ (tyN_of hs) nm_str, isaS])
  (rw [gos_cons]; simp only [gos_nil, evS, ev, evs, mArgs, mAnds, mOrs, tAnds, tOrs, Sm.of, Sm.bl, Sm.it, mVar, mCon, conD, mCall, mPrim, mBin, mChain, mAndV, mOrV, mAndT, mOrT, mNotV, mNotT, mIf, mNil, mCons, mTup, mLst, mDic, mYes,
  List.map_cons, List.map_nil, List.cons_append, List.nil_append, List.replicate, List.length_cons, List.length_nil, List.getElem?_cons_zero, List.getElem?_cons_succ, Option.join_some, List.set_cons_zero, List.set_cons_succ, Nat.reduceAdd, Nat.reduceSub, Nat.zero_add, Nat.add_zero,
  gos_seq, gos_next, gos_brk, gos_ct, gos_retN, gos_if, gos_asg, gos_ret, gos_drop, gos_par, gos_for, gos_setIx, kR_ok, kS_ok, kQ_nx, kQ_rt, kQ_bk, kQ_ct, kQ_ex, kC_rt, kC_nx, kC_ex,
  go_ret, go_some, go_bind, go_add, go_sub, go_mul, go_mod, go_div, go_pow, go_shl, go_lt, go_le, go_gt, go_ge, go_eq, go_eqS, go_ne, go_neS, go_eqB, go_eqT0, go_bl, go_tru, go_ixT, go_ixL, go_ixR, go_lenT, go_lenL, go_lenR, go_listT, go_max2, go_min2, go_if, gos_ifB, ifB_t, ifB_f,
  atI0, atI1, atI2, M.opt_some, Option.map_some, Bool.not_true, Bool.not_false, mSlice, mPart0, mRev, go_part, go_neg, go_slT, go_revT, go_rng1, asg, exists_eq_left', Option.some.injEq, D.int.injEq, List.cons.injEq, and_true, true_and, cell0, h3, decide_true])
  by_cases q1 : w = "in"
  · simp only [gos_nil, evS, ev, evs, mArgs, mAnds, mOrs, tAnds, tOrs, Sm.of, Sm.bl, Sm.it, mVar, mCon, conD, mCall, mPrim, mBin, mChain, mAndV, mOrV, mAndT, mOrT, mNotV, mNotT, mIf, mNil, mCons, mTup, mLst, mDic, mYes,
  List.map_cons, List.map_nil, List.cons_append, List.nil_append, List.replicate, List.length_cons, List.length_nil, List.getElem?_cons_zero, List.getElem?_cons_succ, Option.join_some, List.set_cons_zero, List.set_cons_succ, Nat.reduceAdd, Nat.reduceSub, Nat.zero_add, Nat.add_zero,
  gos_seq, gos_next, gos_brk, gos_ct, gos_retN, gos_if, gos_asg, gos_ret, gos_drop, gos_par, gos_for, gos_setIx, kR_ok, kS_ok, kQ_nx, kQ_rt, kQ_bk, kQ_ct, kQ_ex, kC_rt, kC_nx, kC_ex,
  go_ret, go_some, go_bind, go_add, go_sub, go_mul, go_mod, go_div, go_pow, go_shl, go_lt, go_le, go_gt, go_ge, go_eq, go_eqS, go_ne, go_neS, go_eqB, go_eqT0, go_bl, go_tru, go_ixT, go_ixL, go_ixR, go_lenT, go_lenL, go_lenR, go_listT, go_max2, go_min2, go_if, gos_ifB, ifB_t, ifB_f,
  atI0, atI1, atI2, M.opt_some, Option.map_some, Bool.not_true, Bool.not_false, mSlice, mPart0, mRev, go_part, go_neg, go_slT, go_revT, go_rng1, asg, exists_eq_left', Option.some.injEq, D.int.injEq, List.cons.injEq, and_true, true_and, q1, decide_true]
    (rw [gos_cons]; simp only [gos_nil, evS, ev, evs, mArgs, mAnds, mOrs, tAnds, tOrs, Sm.of, Sm.bl, Sm.it, mVar, mCon, conD, mCall, mPrim, mBin, mChain, mAndV, mOrV, mAndT, mOrT, mNotV, mNotT, mIf, mNil, mCons, mTup, mLst, mDic, mYes,
  List.map_cons, List.map_nil, List.cons_append, List.nil_append, List.replicate, List.length_cons, List.length_nil, List.getElem?_cons_zero, List.getElem?_cons_succ, Option.join_some, List.set_cons_zero, List.set_cons_succ, Nat.reduceAdd, Nat.reduceSub, Nat.zero_add, Nat.add_zero,
  gos_seq, gos_next, gos_brk, gos_ct, gos_retN, gos_if, gos_asg, gos_ret, gos_drop, gos_par, gos_for, gos_setIx, kR_ok, kS_ok, kQ_nx, kQ_rt, kQ_bk, kQ_ct, kQ_ex, kC_rt, kC_nx, kC_ex,
  go_ret, go_some, go_bind, go_add, go_sub, go_mul, go_mod, go_div, go_pow, go_shl, go_lt, go_le, go_gt, go_ge, go_eq, go_eqS, go_ne, go_neS, go_eqB, go_eqT0, go_bl, go_tru, go_ixT, go_ixL, go_ixR, go_lenT, go_lenL, go_lenR, go_listT, go_max2, go_min2, go_if, gos_ifB, ifB_t, ifB_f,
  atI0, atI1, atI2, M.opt_some, Option.map_some, Bool.not_true, Bool.not_false, mSlice, mPart0, mRev, go_part, go_neg, go_slT, go_revT, go_rng1, asg, exists_eq_left', Option.some.injEq, D.int.injEq, List.cons.injEq, and_true, true_and, cell0, e3])
  · simp only [gos_nil, evS, ev, evs, mArgs, mAnds, mOrs, tAnds, tOrs, Sm.of, Sm.bl, Sm.it, mVar, mCon, conD, mCall, mPrim, mBin, mChain, mAndV, mOrV, mAndT, mOrT, mNotV, mNotT, mIf, mNil, mCons, mTup, mLst, mDic, mYes,
  List.map_cons, List.map_nil, List.cons_append, List.nil_append, List.replicate, List.length_cons, List.length_nil, List.getElem?_cons_zero, List.getElem?_cons_succ, Option.join_some, List.set_cons_zero, List.set_cons_succ, Nat.reduceAdd, Nat.reduceSub, Nat.zero_add, Nat.add_zero,
  gos_seq, gos_next, gos_brk, gos_ct, gos_retN, gos_if, gos_asg, gos_ret, gos_drop, gos_par, gos_for, gos_setIx, kR_ok, kS_ok, kQ_nx, kQ_rt, kQ_bk, kQ_ct, kQ_ex, kC_rt, kC_nx, kC_ex,
  go_ret, go_some, go_bind, go_add, go_sub, go_mul, go_mod, go_div, go_pow, go_shl, go_lt, go_le, go_gt, go_ge, go_eq, go_eqS, go_ne, go_neS, go_eqB, go_eqT0, go_bl, go_tru, go_ixT, go_ixL, go_ixR, go_lenT, go_lenL, go_lenR, go_listT, go_max2, go_min2, go_if, gos_ifB, ifB_t, ifB_f,
  atI0, atI1, atI2, M.opt_some, Option.map_some, Bool.not_true, Bool.not_false, mSlice, mPart0, mRev, go_part, go_neg, go_slT, go_revT, go_rng1, asg, exists_eq_left', Option.some.injEq, D.int.injEq, List.cons.injEq, and_true, true_and, q1, decide_false]
    (rw [gos_cons]; simp only [gos_nil, evS, ev, evs, mArgs, mAnds, mOrs, tAnds, tOrs, Sm.of, Sm.bl, Sm.it, mVar, mCon, conD, mCall, mPrim, mBin, mChain, mAndV, mOrV, mAndT, mOrT, mNotV, mNotT, mIf, mNil, mCons, mTup, mLst, mDic, mYes,
  List.map_cons, List.map_nil, List.cons_append, List.nil_append, List.replicate, List.length_cons, List.length_nil, List.getElem?_cons_zero, List.getElem?_cons_succ, Option.join_some, List.set_cons_zero, List.set_cons_succ, Nat.reduceAdd, Nat.reduceSub, Nat.zero_add, Nat.add_zero,
  gos_seq, gos_next, gos_brk, gos_ct, gos_retN, gos_if, gos_asg, gos_ret, gos_drop, gos_par, gos_for, gos_setIx, kR_ok, kS_ok, kQ_nx, kQ_rt, kQ_bk, kQ_ct, kQ_ex, kC_rt, kC_nx, kC_ex,
  go_ret, go_some, go_bind, go_add, go_sub, go_mul, go_mod, go_div, go_pow, go_shl, go_lt, go_le, go_gt, go_ge, go_eq, go_eqS, go_ne, go_neS, go_eqB, go_eqT0, go_bl, go_tru, go_ixT, go_ixL, go_ixR, go_lenT, go_lenL, go_lenR, go_listT, go_max2, go_min2, go_if, gos_ifB, ifB_t, ifB_f,
  atI0, atI1, atI2, M.opt_some, Option.map_some, Bool.not_true, Bool.not_false, mSlice, mPart0, mRev, go_part, go_neg, go_slT, go_revT, go_rng1, asg, exists_eq_left', Option.some.injEq, D.int.injEq, List.cons.injEq, and_true, true_and, h3, decide_true])
    (rw [gos_cons]; simp only [gos_nil, evS, ev, evs, mArgs, mAnds, mOrs, tAnds, tOrs, Sm.of, Sm.bl, Sm.it, mVar, mCon, conD, mCall, mPrim, mBin, mChain, mAndV, mOrV, mAndT, mOrT, mNotV, mNotT, mIf, mNil, mCons, mTup, mLst, mDic, mYes,
  List.map_cons, List.map_nil, List.cons_append, List.nil_append, List.replicate, List.length_cons, List.length_nil, List.getElem?_cons_zero, List.getElem?_cons_succ, Option.join_some, List.set_cons_zero, List.set_cons_succ, Nat.reduceAdd, Nat.reduceSub, Nat.zero_add, Nat.add_zero,
  gos_seq, gos_next, gos_brk, gos_ct, gos_retN, gos_if, gos_asg, gos_ret, gos_drop, gos_par, gos_for, gos_setIx, kR_ok, kS_ok, kQ_nx, kQ_rt, kQ_bk, kQ_ct, kQ_ex, kC_rt, kC_nx, kC_ex,
  go_ret, go_some, go_bind, go_add, go_sub, go_mul, go_mod, go_div, go_pow, go_shl, go_lt, go_le, go_gt, go_ge, go_eq, go_eqS, go_ne, go_neS, go_eqB, go_eqT0, go_bl, go_tru, go_ixT, go_ixL, go_ixR, go_lenT, go_lenL, go_lenR, go_listT, go_max2, go_min2, go_if, gos_ifB, ifB_t, ifB_f,
  atI0, atI1, atI2, M.opt_some, Option.map_some, Bool.not_true, Bool.not_false, mSlice, mPart0, mRev, go_part, go_neg, go_slT, go_revT, go_rng1, asg, exists_eq_left', Option.some.injEq, D.int.injEq, List.cons.injEq, and_true, true_and, cell0])
    by_cases q2 : w = "not"
    · simp only [gos_nil, evS, ev, evs, mArgs, mAnds, mOrs, tAnds, tOrs, Sm.of, Sm.bl, Sm.it, mVar, mCon, conD, mCall, mPrim, mBin, mChain, mAndV, mOrV, mAndT, mOrT, mNotV, mNotT, mIf, mNil, mCons, mTup, mLst, mDic, mYes,
  List.map_cons, List.map_nil, List.cons_append, List.nil_append, List.replicate, List.length_cons, List.length_nil, List.getElem?_cons_zero, List.getElem?_cons_succ, Option.join_some, List.set_cons_zero, List.set_cons_succ, Nat.reduceAdd, Nat.reduceSub, Nat.zero_add, Nat.add_zero,
  gos_seq, gos_next, gos_brk, gos_ct, gos_retN, gos_if, gos_asg, gos_ret, gos_drop, gos_par, gos_for, gos_setIx, kR_ok, kS_ok, kQ_nx, kQ_rt, kQ_bk, kQ_ct, kQ_ex, kC_rt, kC_nx, kC_ex,
  go_ret, go_some, go_bind, go_add, go_sub, go_mul, go_mod, go_div, go_pow, go_shl, go_lt, go_le, go_gt, go_ge, go_eq, go_eqS, go_ne, go_neS, go_eqB, go_eqT0, go_bl, go_tru, go_ixT, go_ixL, go_ixR, go_lenT, go_lenL, go_lenR, go_listT, go_max2, go_min2, go_if, gos_ifB, ifB_t, ifB_f,
  atI0, atI1, atI2, M.opt_some, Option.map_some, Bool.not_true, Bool.not_false, mSlice, mPart0, mRev, go_part, go_neg, go_slT, go_revT, go_rng1, asg, exists_eq_left', Option.some.injEq, D.int.injEq, List.cons.injEq, and_true, true_and, q2, decide_true, cell0, hj]
    · simp only [gos_nil, evS, ev, evs, mArgs, mAnds, mOrs, tAnds, tOrs, Sm.of, Sm.bl, Sm.it, mVar, mCon, conD, mCall, mPrim, mBin, mChain, mAndV, mOrV, mAndT, mOrT, mNotV, mNotT, mIf, mNil, mCons, mTup, mLst, mDic, mYes,
  List.map_cons, List.map_nil, List.cons_append, List.nil_append, List.replicate, List.length_cons, List.length_nil, List.getElem?_cons_zero, List.getElem?_cons_succ, Option.join_some, List.set_cons_zero, List.set_cons_succ, Nat.reduceAdd, Nat.reduceSub, Nat.zero_add, Nat.add_zero,
  gos_seq, gos_next, gos_brk, gos_ct, gos_retN, gos_if, gos_asg, gos_ret, gos_drop, gos_par, gos_for, gos_setIx, kR_ok, kS_ok, kQ_nx, kQ_rt, kQ_bk, kQ_ct, kQ_ex, kC_rt, kC_nx, kC_ex,
  go_ret, go_some, go_bind, go_add, go_sub, go_mul, go_mod, go_div, go_pow, go_shl, go_lt, go_le, go_gt, go_ge, go_eq, go_eqS, go_ne, go_neS, go_eqB, go_eqT0, go_bl, go_tru, go_ixT, go_ixL, go_ixR, go_lenT, go_lenL, go_lenR, go_listT, go_max2, go_min2, go_if, gos_ifB, ifB_t, ifB_f,
  atI0, atI1, atI2, M.opt_some, Option.map_some, Bool.not_true, Bool.not_false, mSlice, mPart0, mRev, go_part, go_neg, go_slT, go_revT, go_rng1, asg, exists_eq_left', Option.some.injEq, D.int.injEq, List.cons.injEq, and_true, true_and, q2, decide_false]
theorem i18_3 {w : Str} {y z : D} {i j : Int} (h : (D.tup [.str w, y, z]).solid = true) (hi : ∀ st R, Go (cD (n + 4) 18 [y]) st R = R (.ok (.int i) st)) (hj : ∀ st R, Go (cD (n + 4) 18 [z]) st R = R (.ok (.int j) st)) :
    Go (cD (n + 5) 18 [.tup [.str w, y, z]]) st R = ifB (wB w) (R (.ok (.int (1 + i + j)) st)) (R (.ok (.int 99) st)) := by
  rw [cD, go_call (f := f18) rfl rfl]
  show GoS (evSs _ _ b_law_inners) _ _ _ = _
  unfold b_law_inners
  have e : ∀ st R, Go (cD (n + 4) 13 [.tup [.str w, y, z], .int 0, .int 63]) st R = R (.ok (.bl (ftB 0 63 (.tup [.str w, y, z]))) st) := fun st R => sp13 (n := n + 2) h
  have h1 : (2 : Int) ≤ ((1 + 1 + 1 : Nat) : Int) := by omega
  have h2 : ((1 + 1 + 1 : Nat) : Int) ≤ 3 := by omega
  have h3 : ¬ ((1 + 1 + 1 : Nat) : Int) = 2 := by omega
  have hs : (D.str w).solid = true := rfl
  have hw : ∀ st R, Go (cmpF .NotIn (.str w) (.lst [.str "add", .str "less", .str "times", .str "and", .str "or", .str "other", .str "below", .str "like"])) st R = R (.ok (.bl (!wB w)) st) := fun st R => go_ninL w W rfl
  have hL : 8 ≤ LIM := by decide
  (rw [gos_cons]; simp only [gos_nil, evS, ev, evs, mArgs, mAnds, mOrs, tAnds, tOrs, Sm.of, Sm.bl, Sm.it, mVar, mCon, conD, mCall, mPrim, mBin, mChain, mAndV, mOrV, mAndT, mOrT, mNotV, mNotT, mIf, mNil, mCons, mTup, mLst, mDic, mYes,
  List.map_cons, List.map_nil, List.cons_append, List.nil_append, List.replicate, List.length_cons, List.length_nil, List.getElem?_cons_zero, List.getElem?_cons_succ, Option.join_some, List.set_cons_zero, List.set_cons_succ, Nat.reduceAdd, Nat.reduceSub, Nat.zero_add, Nat.add_zero,
  gos_seq, gos_next, gos_brk, gos_ct, gos_retN, gos_if, gos_asg, gos_ret, gos_drop, gos_par, gos_for, gos_setIx, kR_ok, kS_ok, kQ_nx, kQ_rt, kQ_bk, kQ_ct, kQ_ex, kC_rt, kC_nx, kC_ex,
  go_ret, go_some, go_bind, go_add, go_sub, go_mul, go_mod, go_div, go_pow, go_shl, go_lt, go_le, go_gt, go_ge, go_eq, go_eqS, go_ne, go_neS, go_eqB, go_eqT0, go_bl, go_tru, go_ixT, go_ixL, go_ixR, go_lenT, go_lenL, go_lenR, go_listT, go_max2, go_min2, go_if, gos_ifB, ifB_t, ifB_f,
  atI0, atI1, atI2, M.opt_some, Option.map_some, Bool.not_true, Bool.not_false, mSlice, mPart0, mRev, go_part, go_neg, go_slT, go_revT, go_rng1, asg, exists_eq_left', Option.some.injEq, D.int.injEq, List.cons.injEq, and_true, true_and, cell0, e, leaf_tup])
  (rw [gos_cons]; simp only [gos_nil, evS, ev, evs, mArgs, mAnds, mOrs, tAnds, tOrs, Sm.of, Sm.bl, Sm.it, mVar, mCon, conD, mCall, mPrim, mBin, mChain, mAndV, mOrV, mAndT, mOrT, mNotV, mNotT, mIf, mNil, mCons, mTup, mLst, mDic, mYes,
  List.map_cons, List.map_nil, List.cons_append, List.nil_append, List.replicate, List.length_cons, List.length_nil, List.getElem?_cons_zero, List.getElem?_cons_succ, Option.join_some, List.set_cons_zero, List.set_cons_succ, Nat.reduceAdd, Nat.reduceSub, Nat.zero_add, Nat.add_zero,
  gos_seq, gos_next, gos_brk, gos_ct, gos_retN, gos_if, gos_asg, gos_ret, gos_drop, gos_par, gos_for, gos_setIx, kR_ok, kS_ok, kQ_nx, kQ_rt, kQ_bk, kQ_ct, kQ_ex, kC_rt, kC_nx, kC_ex,
  go_ret, go_some, go_bind, go_add, go_sub, go_mul, go_mod, go_div, go_pow, go_shl, go_lt, go_le, go_gt, go_ge, go_eq, go_eqS, go_ne, go_neS, go_eqB, go_eqT0, go_bl, go_tru, go_ixT, go_ixL, go_ixR, go_lenT, go_lenL, go_lenR, go_listT, go_max2, go_min2, go_if, gos_ifB, ifB_t, ifB_f,
  atI0, atI1, atI2, M.opt_some, Option.map_some, Bool.not_true, Bool.not_false, mSlice, mPart0, mRev, go_part, go_neg, go_slT, go_revT, go_rng1, asg, exists_eq_left', Option.some.injEq, D.int.injEq, List.cons.injEq, and_true, true_and, go_isa _ _ (tyN_of h) nm_tuple, isaT, h1, h2, decide_true, go_isa (.str w) _ (tyN_of hs) nm_str, isaS])
  (rw [gos_cons]; simp only [gos_nil, evS, ev, evs, mArgs, mAnds, mOrs, tAnds, tOrs, Sm.of, Sm.bl, Sm.it, mVar, mCon, conD, mCall, mPrim, mBin, mChain, mAndV, mOrV, mAndT, mOrT, mNotV, mNotT, mIf, mNil, mCons, mTup, mLst, mDic, mYes,
  List.map_cons, List.map_nil, List.cons_append, List.nil_append, List.replicate, List.length_cons, List.length_nil, List.getElem?_cons_zero, List.getElem?_cons_succ, Option.join_some, List.set_cons_zero, List.set_cons_succ, Nat.reduceAdd, Nat.reduceSub, Nat.zero_add, Nat.add_zero,
  gos_seq, gos_next, gos_brk, gos_ct, gos_retN, gos_if, gos_asg, gos_ret, gos_drop, gos_par, gos_for, gos_setIx, kR_ok, kS_ok, kQ_nx, kQ_rt, kQ_bk, kQ_ct, kQ_ex, kC_rt, kC_nx, kC_ex,
  go_ret, go_some, go_bind, go_add, go_sub, go_mul, go_mod, go_div, go_pow, go_shl, go_lt, go_le, go_gt, go_ge, go_eq, go_eqS, go_ne, go_neS, go_eqB, go_eqT0, go_bl, go_tru, go_ixT, go_ixL, go_ixR, go_lenT, go_lenL, go_lenR, go_listT, go_max2, go_min2, go_if, gos_ifB, ifB_t, ifB_f,
  atI0, atI1, atI2, M.opt_some, Option.map_some, Bool.not_true, Bool.not_false, mSlice, mPart0, mRev, go_part, go_neg, go_slT, go_revT, go_rng1, asg, exists_eq_left', Option.some.injEq, D.int.injEq, List.cons.injEq, and_true, true_and, cell0, h3, decide_false])
  (rw [gos_cons]; simp only [gos_nil, evS, ev, evs, mArgs, mAnds, mOrs, tAnds, tOrs, Sm.of, Sm.bl, Sm.it, mVar, mCon, conD, mCall, mPrim, mBin, mChain, mAndV, mOrV, mAndT, mOrT, mNotV, mNotT, mIf, mNil, mCons, mTup, mLst, mDic, mYes,
  List.map_cons, List.map_nil, List.cons_append, List.nil_append, List.replicate, List.length_cons, List.length_nil, List.getElem?_cons_zero, List.getElem?_cons_succ, Option.join_some, List.set_cons_zero, List.set_cons_succ, Nat.reduceAdd, Nat.reduceSub, Nat.zero_add, Nat.add_zero,
  gos_seq, gos_next, gos_brk, gos_ct, gos_retN, gos_if, gos_asg, gos_ret, gos_drop, gos_par, gos_for, gos_setIx, kR_ok, kS_ok, kQ_nx, kQ_rt, kQ_bk, kQ_ct, kQ_ex, kC_rt, kC_nx, kC_ex,
  go_ret, go_some, go_bind, go_add, go_sub, go_mul, go_mod, go_div, go_pow, go_shl, go_lt, go_le, go_gt, go_ge, go_eq, go_eqS, go_ne, go_neS, go_eqB, go_eqT0, go_bl, go_tru, go_ixT, go_ixL, go_ixR, go_lenT, go_lenL, go_lenR, go_listT, go_max2, go_min2, go_if, gos_ifB, ifB_t, ifB_f,
  atI0, atI1, atI2, M.opt_some, Option.map_some, Bool.not_true, Bool.not_false, mSlice, mPart0, mRev, go_part, go_neg, go_slT, go_revT, go_rng1, asg, exists_eq_left', Option.some.injEq, D.int.injEq, List.cons.injEq, and_true, true_and, cell0, h3, decide_false])
  (rw [gos_cons]; simp only [gos_nil, evS, ev, evs, mArgs, mAnds, mOrs, tAnds, tOrs, Sm.of, Sm.bl, Sm.it, mVar, mCon, conD, mCall, mPrim, mBin, mChain, mAndV, mOrV, mAndT, mOrT, mNotV, mNotT, mIf, mNil, mCons, mTup, mLst, mDic, mYes,
  List.map_cons, List.map_nil, List.cons_append, List.nil_append, List.replicate, List.length_cons, List.length_nil, List.getElem?_cons_zero, List.getElem?_cons_succ, Option.join_some, List.set_cons_zero, List.set_cons_succ, Nat.reduceAdd, Nat.reduceSub, Nat.zero_add, Nat.add_zero,
  gos_seq, gos_next, gos_brk, gos_ct, gos_retN, gos_if, gos_asg, gos_ret, gos_drop, gos_par, gos_for, gos_setIx, kR_ok, kS_ok, kQ_nx, kQ_rt, kQ_bk, kQ_ct, kQ_ex, kC_rt, kC_nx, kC_ex,
  go_ret, go_some, go_bind, go_add, go_sub, go_mul, go_mod, go_div, go_pow, go_shl, go_lt, go_le, go_gt, go_ge, go_eq, go_eqS, go_ne, go_neS, go_eqB, go_eqT0, go_bl, go_tru, go_ixT, go_ixL, go_ixR, go_lenT, go_lenL, go_lenR, go_listT, go_max2, go_min2, go_if, gos_ifB, ifB_t, ifB_f,
  atI0, atI1, atI2, M.opt_some, Option.map_some, Bool.not_true, Bool.not_false, mSlice, mPart0, mRev, go_part, go_neg, go_slT, go_revT, go_rng1, asg, exists_eq_left', Option.some.injEq, D.int.injEq, List.cons.injEq, and_true, true_and, cell0, hw, hL, if_true])
  cases q : wB w with
  | true =>
    simp only [gos_nil, evS, ev, evs, mArgs, mAnds, mOrs, tAnds, tOrs, Sm.of, Sm.bl, Sm.it, mVar, mCon, conD, mCall, mPrim, mBin, mChain, mAndV, mOrV, mAndT, mOrT, mNotV, mNotT, mIf, mNil, mCons, mTup, mLst, mDic, mYes,
  List.map_cons, List.map_nil, List.cons_append, List.nil_append, List.replicate, List.length_cons, List.length_nil, List.getElem?_cons_zero, List.getElem?_cons_succ, Option.join_some, List.set_cons_zero, List.set_cons_succ, Nat.reduceAdd, Nat.reduceSub, Nat.zero_add, Nat.add_zero,
  gos_seq, gos_next, gos_brk, gos_ct, gos_retN, gos_if, gos_asg, gos_ret, gos_drop, gos_par, gos_for, gos_setIx, kR_ok, kS_ok, kQ_nx, kQ_rt, kQ_bk, kQ_ct, kQ_ex, kC_rt, kC_nx, kC_ex,
  go_ret, go_some, go_bind, go_add, go_sub, go_mul, go_mod, go_div, go_pow, go_shl, go_lt, go_le, go_gt, go_ge, go_eq, go_eqS, go_ne, go_neS, go_eqB, go_eqT0, go_bl, go_tru, go_ixT, go_ixL, go_ixR, go_lenT, go_lenL, go_lenR, go_listT, go_max2, go_min2, go_if, gos_ifB, ifB_t, ifB_f,
  atI0, atI1, atI2, M.opt_some, Option.map_some, Bool.not_true, Bool.not_false, mSlice, mPart0, mRev, go_part, go_neg, go_slT, go_revT, go_rng1, asg, exists_eq_left', Option.some.injEq, D.int.injEq, List.cons.injEq, and_true, true_and, q]
    (rw [gos_cons]; simp only [gos_nil, evS, ev, evs, mArgs, mAnds, mOrs, tAnds, tOrs, Sm.of, Sm.bl, Sm.it, mVar, mCon, conD, mCall, mPrim, mBin, mChain, mAndV, mOrV, mAndT, mOrT, mNotV, mNotT, mIf, mNil, mCons, mTup, mLst, mDic, mYes,
  List.map_cons, List.map_nil, List.cons_append, List.nil_append, List.replicate, List.length_cons, List.length_nil, List.getElem?_cons_zero, List.getElem?_cons_succ, Option.join_some, List.set_cons_zero, List.set_cons_succ, Nat.reduceAdd, Nat.reduceSub, Nat.zero_add, Nat.add_zero,
  gos_seq, gos_next, gos_brk, gos_ct, gos_retN, gos_if, gos_asg, gos_ret, gos_drop, gos_par, gos_for, gos_setIx, kR_ok, kS_ok, kQ_nx, kQ_rt, kQ_bk, kQ_ct, kQ_ex, kC_rt, kC_nx, kC_ex,
  go_ret, go_some, go_bind, go_add, go_sub, go_mul, go_mod, go_div, go_pow, go_shl, go_lt, go_le, go_gt, go_ge, go_eq, go_eqS, go_ne, go_neS, go_eqB, go_eqT0, go_bl, go_tru, go_ixT, go_ixL, go_ixR, go_lenT, go_lenL, go_lenR, go_listT, go_max2, go_min2, go_if, gos_ifB, ifB_t, ifB_f,
  atI0, atI1, atI2, M.opt_some, Option.map_some, Bool.not_true, Bool.not_false, mSlice, mPart0, mRev, go_part, go_neg, go_slT, go_revT, go_rng1, asg, exists_eq_left', Option.some.injEq, D.int.injEq, List.cons.injEq, and_true, true_and, cell0, hi, hj])
  | false =>
    simp only [gos_nil, evS, ev, evs, mArgs, mAnds, mOrs, tAnds, tOrs, Sm.of, Sm.bl, Sm.it, mVar, mCon, conD, mCall, mPrim, mBin, mChain, mAndV, mOrV, mAndT, mOrT, mNotV, mNotT, mIf, mNil, mCons, mTup, mLst, mDic, mYes,
  List.map_cons, List.map_nil, List.cons_append, List.nil_append, List.replicate, List.length_cons, List.length_nil, List.getElem?_cons_zero, List.getElem?_cons_succ, Option.join_some, List.set_cons_zero, List.set_cons_succ, Nat.reduceAdd, Nat.reduceSub, Nat.zero_add, Nat.add_zero,
  gos_seq, gos_next, gos_brk, gos_ct, gos_retN, gos_if, gos_asg, gos_ret, gos_drop, gos_par, gos_for, gos_setIx, kR_ok, kS_ok, kQ_nx, kQ_rt, kQ_bk, kQ_ct, kQ_ex, kC_rt, kC_nx, kC_ex,
  go_ret, go_some, go_bind, go_add, go_sub, go_mul, go_mod, go_div, go_pow, go_shl, go_lt, go_le, go_gt, go_ge, go_eq, go_eqS, go_ne, go_neS, go_eqB, go_eqT0, go_bl, go_tru, go_ixT, go_ixL, go_ixR, go_lenT, go_lenL, go_lenR, go_listT, go_max2, go_min2, go_if, gos_ifB, ifB_t, ifB_f,
  atI0, atI1, atI2, M.opt_some, Option.map_some, Bool.not_true, Bool.not_false, mSlice, mPart0, mRev, go_part, go_neg, go_slT, go_revT, go_rng1, asg, exists_eq_left', Option.some.injEq, D.int.injEq, List.cons.injEq, and_true, true_and, q]
    (rw [gos_cons]; simp only [gos_nil, evS, ev, evs, mArgs, mAnds, mOrs, tAnds, tOrs, Sm.of, Sm.bl, Sm.it, mVar, mCon, conD, mCall, mPrim, mBin, mChain, mAndV, mOrV, mAndT, mOrT, mNotV, mNotT, mIf, mNil, mCons, mTup, mLst, mDic, mYes,
  List.map_cons, List.map_nil, List.cons_append, List.nil_append, List.replicate, List.length_cons, List.length_nil, List.getElem?_cons_zero, List.getElem?_cons_succ, Option.join_some, List.set_cons_zero, List.set_cons_succ, Nat.reduceAdd, Nat.reduceSub, Nat.zero_add, Nat.add_zero,
  gos_seq, gos_next, gos_brk, gos_ct, gos_retN, gos_if, gos_asg, gos_ret, gos_drop, gos_par, gos_for, gos_setIx, kR_ok, kS_ok, kQ_nx, kQ_rt, kQ_bk, kQ_ct, kQ_ex, kC_rt, kC_nx, kC_ex,
  go_ret, go_some, go_bind, go_add, go_sub, go_mul, go_mod, go_div, go_pow, go_shl, go_lt, go_le, go_gt, go_ge, go_eq, go_eqS, go_ne, go_neS, go_eqB, go_eqT0, go_bl, go_tru, go_ixT, go_ixL, go_ixR, go_lenT, go_lenL, go_lenR, go_listT, go_max2, go_min2, go_if, gos_ifB, ifB_t, ifB_f,
  atI0, atI1, atI2, M.opt_some, Option.map_some, Bool.not_true, Bool.not_false, mSlice, mPart0, mRev, go_part, go_neg, go_slT, go_revT, go_rng1, asg, exists_eq_left', Option.some.injEq, D.int.injEq, List.cons.injEq, and_true, true_and])
theorem i6_leaf {d : D} (h : d.solid = true) (q : leafB d = true) : Go (cD (n + 5) 6 [d]) st R = R (.ok (.int 0) st) := by
  rw [cD, go_call (f := f6) rfl rfl]
  show GoS (evSs _ _ b_inner_of) _ _ _ = _
  unfold b_inner_of
  (rw [gos_cons]; simp only [gos_nil, evS, ev, evs, mArgs, mAnds, mOrs, tAnds, tOrs, Sm.of, Sm.bl, Sm.it, mVar, mCon, conD, mCall, mPrim, mBin, mChain, mAndV, mOrV, mAndT, mOrT, mNotV, mNotT, mIf, mNil, mCons, mTup, mLst, mDic, mYes,
  List.map_cons, List.map_nil, List.cons_append, List.nil_append, List.replicate, List.length_cons, List.length_nil, List.getElem?_cons_zero, List.getElem?_cons_succ, Option.join_some, List.set_cons_zero, List.set_cons_succ, Nat.reduceAdd, Nat.reduceSub, Nat.zero_add, Nat.add_zero,
  gos_seq, gos_next, gos_brk, gos_ct, gos_retN, gos_if, gos_asg, gos_ret, gos_drop, gos_par, gos_for, gos_setIx, kR_ok, kS_ok, kQ_nx, kQ_rt, kQ_bk, kQ_ct, kQ_ex, kC_rt, kC_nx, kC_ex,
  go_ret, go_some, go_bind, go_add, go_sub, go_mul, go_mod, go_div, go_pow, go_shl, go_lt, go_le, go_gt, go_ge, go_eq, go_eqS, go_ne, go_neS, go_eqB, go_eqT0, go_bl, go_tru, go_ixT, go_ixL, go_ixR, go_lenT, go_lenL, go_lenR, go_listT, go_max2, go_min2, go_if, gos_ifB, ifB_t, ifB_f,
  atI0, atI1, atI2, M.opt_some, Option.map_some, Bool.not_true, Bool.not_false, mSlice, mPart0, mRev, go_part, go_neg, go_slT, go_revT, go_rng1, asg, exists_eq_left', Option.some.injEq, D.int.injEq, List.cons.injEq, and_true, true_and, cell0, sp5 (n := n) h, q])
  (rw [gos_cons]; simp only [gos_nil, evS, ev, evs, mArgs, mAnds, mOrs, tAnds, tOrs, Sm.of, Sm.bl, Sm.it, mVar, mCon, conD, mCall, mPrim, mBin, mChain, mAndV, mOrV, mAndT, mOrT, mNotV, mNotT, mIf, mNil, mCons, mTup, mLst, mDic, mYes,
  List.map_cons, List.map_nil, List.cons_append, List.nil_append, List.replicate, List.length_cons, List.length_nil, List.getElem?_cons_zero, List.getElem?_cons_succ, Option.join_some, List.set_cons_zero, List.set_cons_succ, Nat.reduceAdd, Nat.reduceSub, Nat.zero_add, Nat.add_zero,
  gos_seq, gos_next, gos_brk, gos_ct, gos_retN, gos_if, gos_asg, gos_ret, gos_drop, gos_par, gos_for, gos_setIx, kR_ok, kS_ok, kQ_nx, kQ_rt, kQ_bk, kQ_ct, kQ_ex, kC_rt, kC_nx, kC_ex,
  go_ret, go_some, go_bind, go_add, go_sub, go_mul, go_mod, go_div, go_pow, go_shl, go_lt, go_le, go_gt, go_ge, go_eq, go_eqS, go_ne, go_neS, go_eqB, go_eqT0, go_bl, go_tru, go_ixT, go_ixL, go_ixR, go_lenT, go_lenL, go_lenR, go_listT, go_max2, go_min2, go_if, gos_ifB, ifB_t, ifB_f,
  atI0, atI1, atI2, M.opt_some, Option.map_some, Bool.not_true, Bool.not_false, mSlice, mPart0, mRev, go_part, go_neg, go_slT, go_revT, go_rng1, asg, exists_eq_left', Option.some.injEq, D.int.injEq, List.cons.injEq, and_true, true_and])
theorem i6_bad {d : D} (h : d.solid = true) (h1 : leafB d = false) (h2 : shB "not" 2 d = false) (h3 : twB d = false) : Go (cD (n + 5) 6 [d]) st R = R (.ok (.int 13) st) := by
  rw [cD, go_call (f := f6) rfl rfl]
  show GoS (evSs _ _ b_inner_of) _ _ _ = _
  unfold b_inner_of
  have e2 : ∀ st R, Go (cD (n + 4) 2 [d, .str "not", .int 2]) st R = R (.ok (.bl (shB "not" 2 d)) st) := fun st R => sp2 (n := n + 3) (k := 2) h (by omega)
  have e3 : ∀ st R, Go (cD (n + 4) 3 [d]) st R = R (.ok (.bl (twB d)) st) := fun st R => sp3 (n := n + 3) h
  (rw [gos_cons]; simp only [gos_nil, evS, ev, evs, mArgs, mAnds, mOrs, tAnds, tOrs, Sm.of, Sm.bl, Sm.it, mVar, mCon, conD, mCall, mPrim, mBin, mChain, mAndV, mOrV, mAndT, mOrT, mNotV, mNotT, mIf, mNil, mCons, mTup, mLst, mDic, mYes,
  List.map_cons, List.map_nil, List.cons_append, List.nil_append, List.replicate, List.length_cons, List.length_nil, List.getElem?_cons_zero, List.getElem?_cons_succ, Option.join_some, List.set_cons_zero, List.set_cons_succ, Nat.reduceAdd, Nat.reduceSub, Nat.zero_add, Nat.add_zero,
  gos_seq, gos_next, gos_brk, gos_ct, gos_retN, gos_if, gos_asg, gos_ret, gos_drop, gos_par, gos_for, gos_setIx, kR_ok, kS_ok, kQ_nx, kQ_rt, kQ_bk, kQ_ct, kQ_ex, kC_rt, kC_nx, kC_ex,
  go_ret, go_some, go_bind, go_add, go_sub, go_mul, go_mod, go_div, go_pow, go_shl, go_lt, go_le, go_gt, go_ge, go_eq, go_eqS, go_ne, go_neS, go_eqB, go_eqT0, go_bl, go_tru, go_ixT, go_ixL, go_ixR, go_lenT, go_lenL, go_lenR, go_listT, go_max2, go_min2, go_if, gos_ifB, ifB_t, ifB_f,
  atI0, atI1, atI2, M.opt_some, Option.map_some, Bool.not_true, Bool.not_false, mSlice, mPart0, mRev, go_part, go_neg, go_slT, go_revT, go_rng1, asg, exists_eq_left', Option.some.injEq, D.int.injEq, List.cons.injEq, and_true, true_and, cell0, sp5 (n := n) h, h1])
  (rw [gos_cons]; simp only [gos_nil, evS, ev, evs, mArgs, mAnds, mOrs, tAnds, tOrs, Sm.of, Sm.bl, Sm.it, mVar, mCon, conD, mCall, mPrim, mBin, mChain, mAndV, mOrV, mAndT, mOrT, mNotV, mNotT, mIf, mNil, mCons, mTup, mLst, mDic, mYes,
  List.map_cons, List.map_nil, List.cons_append, List.nil_append, List.replicate, List.length_cons, List.length_nil, List.getElem?_cons_zero, List.getElem?_cons_succ, Option.join_some, List.set_cons_zero, List.set_cons_succ, Nat.reduceAdd, Nat.reduceSub, Nat.zero_add, Nat.add_zero,
  gos_seq, gos_next, gos_brk, gos_ct, gos_retN, gos_if, gos_asg, gos_ret, gos_drop, gos_par, gos_for, gos_setIx, kR_ok, kS_ok, kQ_nx, kQ_rt, kQ_bk, kQ_ct, kQ_ex, kC_rt, kC_nx, kC_ex,
  go_ret, go_some, go_bind, go_add, go_sub, go_mul, go_mod, go_div, go_pow, go_shl, go_lt, go_le, go_gt, go_ge, go_eq, go_eqS, go_ne, go_neS, go_eqB, go_eqT0, go_bl, go_tru, go_ixT, go_ixL, go_ixR, go_lenT, go_lenL, go_lenR, go_listT, go_max2, go_min2, go_if, gos_ifB, ifB_t, ifB_f,
  atI0, atI1, atI2, M.opt_some, Option.map_some, Bool.not_true, Bool.not_false, mSlice, mPart0, mRev, go_part, go_neg, go_slT, go_revT, go_rng1, asg, exists_eq_left', Option.some.injEq, D.int.injEq, List.cons.injEq, and_true, true_and, cell0, e2, h2])
  (rw [gos_cons]; simp only [gos_nil, evS, ev, evs, mArgs, mAnds, mOrs, tAnds, tOrs, Sm.of, Sm.bl, Sm.it, mVar, mCon, conD, mCall, mPrim, mBin, mChain, mAndV, mOrV, mAndT, mOrT, mNotV, mNotT, mIf, mNil, mCons, mTup, mLst, mDic, mYes,
  List.map_cons, List.map_nil, List.cons_append, List.nil_append, List.replicate, List.length_cons, List.length_nil, List.getElem?_cons_zero, List.getElem?_cons_succ, Option.join_some, List.set_cons_zero, List.set_cons_succ, Nat.reduceAdd, Nat.reduceSub, Nat.zero_add, Nat.add_zero,
  gos_seq, gos_next, gos_brk, gos_ct, gos_retN, gos_if, gos_asg, gos_ret, gos_drop, gos_par, gos_for, gos_setIx, kR_ok, kS_ok, kQ_nx, kQ_rt, kQ_bk, kQ_ct, kQ_ex, kC_rt, kC_nx, kC_ex,
  go_ret, go_some, go_bind, go_add, go_sub, go_mul, go_mod, go_div, go_pow, go_shl, go_lt, go_le, go_gt, go_ge, go_eq, go_eqS, go_ne, go_neS, go_eqB, go_eqT0, go_bl, go_tru, go_ixT, go_ixL, go_ixR, go_lenT, go_lenL, go_lenR, go_listT, go_max2, go_min2, go_if, gos_ifB, ifB_t, ifB_f,
  atI0, atI1, atI2, M.opt_some, Option.map_some, Bool.not_true, Bool.not_false, mSlice, mPart0, mRev, go_part, go_neg, go_slT, go_revT, go_rng1, asg, exists_eq_left', Option.some.injEq, D.int.injEq, List.cons.injEq, and_true, true_and, cell0, e3, h3])
  (rw [gos_cons]; simp only [gos_nil, evS, ev, evs, mArgs, mAnds, mOrs, tAnds, tOrs, Sm.of, Sm.bl, Sm.it, mVar, mCon, conD, mCall, mPrim, mBin, mChain, mAndV, mOrV, mAndT, mOrT, mNotV, mNotT, mIf, mNil, mCons, mTup, mLst, mDic, mYes,
  List.map_cons, List.map_nil, List.cons_append, List.nil_append, List.replicate, List.length_cons, List.length_nil, List.getElem?_cons_zero, List.getElem?_cons_succ, Option.join_some, List.set_cons_zero, List.set_cons_succ, Nat.reduceAdd, Nat.reduceSub, Nat.zero_add, Nat.add_zero,
  gos_seq, gos_next, gos_brk, gos_ct, gos_retN, gos_if, gos_asg, gos_ret, gos_drop, gos_par, gos_for, gos_setIx, kR_ok, kS_ok, kQ_nx, kQ_rt, kQ_bk, kQ_ct, kQ_ex, kC_rt, kC_nx, kC_ex,
  go_ret, go_some, go_bind, go_add, go_sub, go_mul, go_mod, go_div, go_pow, go_shl, go_lt, go_le, go_gt, go_ge, go_eq, go_eqS, go_ne, go_neS, go_eqB, go_eqT0, go_bl, go_tru, go_ixT, go_ixL, go_ixR, go_lenT, go_lenL, go_lenR, go_listT, go_max2, go_min2, go_if, gos_ifB, ifB_t, ifB_f,
  atI0, atI1, atI2, M.opt_some, Option.map_some, Bool.not_true, Bool.not_false, mSlice, mPart0, mRev, go_part, go_neg, go_slT, go_revT, go_rng1, asg, exists_eq_left', Option.some.injEq, D.int.injEq, List.cons.injEq, and_true, true_and, lkN])
  rfl
theorem i6_not {y : D} {j : Int} (h : (D.tup [.str "not", y]).solid = true) (hj : ∀ st R, Go (cD (n + 4) 6 [y]) st R = R (.ok (.int j) st)) : Go (cD (n + 5) 6 [.tup [.str "not", y]]) st R = R (.ok (.int (1 + j)) st) := by
  rw [cD, go_call (f := f6) rfl rfl]
  show GoS (evSs _ _ b_inner_of) _ _ _ = _
  unfold b_inner_of
  have e2 : ∀ st R, Go (cD (n + 4) 2 [.tup [.str "not", y], .str "not", .int 2]) st R = R (.ok (.bl (shB "not" 2 (.tup [.str "not", y]))) st) := fun st R => sp2 (n := n + 3) (k := 2) h (by omega)
  have q1 : leafB (.tup [.str "not", y]) = false := by
    unfold leafB inpB ftB
    have : ¬ (("not" : Str) = "in") := by decide
    simp [this]
  have q2 : shB "not" 2 (.tup [.str "not", y]) = true := by
    unfold shB
    simp
  (rw [gos_cons]; simp only [gos_nil, evS, ev, evs, mArgs, mAnds, mOrs, tAnds, tOrs, Sm.of, Sm.bl, Sm.it, mVar, mCon, conD, mCall, mPrim, mBin, mChain, mAndV, mOrV, mAndT, mOrT, mNotV, mNotT, mIf, mNil, mCons, mTup, mLst, mDic, mYes,
  List.map_cons, List.map_nil, List.cons_append, List.nil_append, List.replicate, List.length_cons, List.length_nil, List.getElem?_cons_zero, List.getElem?_cons_succ, Option.join_some, List.set_cons_zero, List.set_cons_succ, Nat.reduceAdd, Nat.reduceSub, Nat.zero_add, Nat.add_zero,
  gos_seq, gos_next, gos_brk, gos_ct, gos_retN, gos_if, gos_asg, gos_ret, gos_drop, gos_par, gos_for, gos_setIx, kR_ok, kS_ok, kQ_nx, kQ_rt, kQ_bk, kQ_ct, kQ_ex, kC_rt, kC_nx, kC_ex,
  go_ret, go_some, go_bind, go_add, go_sub, go_mul, go_mod, go_div, go_pow, go_shl, go_lt, go_le, go_gt, go_ge, go_eq, go_eqS, go_ne, go_neS, go_eqB, go_eqT0, go_bl, go_tru, go_ixT, go_ixL, go_ixR, go_lenT, go_lenL, go_lenR, go_listT, go_max2, go_min2, go_if, gos_ifB, ifB_t, ifB_f,
  atI0, atI1, atI2, M.opt_some, Option.map_some, Bool.not_true, Bool.not_false, mSlice, mPart0, mRev, go_part, go_neg, go_slT, go_revT, go_rng1, asg, exists_eq_left', Option.some.injEq, D.int.injEq, List.cons.injEq, and_true, true_and, cell0, sp5 (n := n) h, q1])
  (rw [gos_cons]; simp only [gos_nil, evS, ev, evs, mArgs, mAnds, mOrs, tAnds, tOrs, Sm.of, Sm.bl, Sm.it, mVar, mCon, conD, mCall, mPrim, mBin, mChain, mAndV, mOrV, mAndT, mOrT, mNotV, mNotT, mIf, mNil, mCons, mTup, mLst, mDic, mYes,
  List.map_cons, List.map_nil, List.cons_append, List.nil_append, List.replicate, List.length_cons, List.length_nil, List.getElem?_cons_zero, List.getElem?_cons_succ, Option.join_some, List.set_cons_zero, List.set_cons_succ, Nat.reduceAdd, Nat.reduceSub, Nat.zero_add, Nat.add_zero,
  gos_seq, gos_next, gos_brk, gos_ct, gos_retN, gos_if, gos_asg, gos_ret, gos_drop, gos_par, gos_for, gos_setIx, kR_ok, kS_ok, kQ_nx, kQ_rt, kQ_bk, kQ_ct, kQ_ex, kC_rt, kC_nx, kC_ex,
  go_ret, go_some, go_bind, go_add, go_sub, go_mul, go_mod, go_div, go_pow, go_shl, go_lt, go_le, go_gt, go_ge, go_eq, go_eqS, go_ne, go_neS, go_eqB, go_eqT0, go_bl, go_tru, go_ixT, go_ixL, go_ixR, go_lenT, go_lenL, go_lenR, go_listT, go_max2, go_min2, go_if, gos_ifB, ifB_t, ifB_f,
  atI0, atI1, atI2, M.opt_some, Option.map_some, Bool.not_true, Bool.not_false, mSlice, mPart0, mRev, go_part, go_neg, go_slT, go_revT, go_rng1, asg, exists_eq_left', Option.some.injEq, D.int.injEq, List.cons.injEq, and_true, true_and, cell0, e2, q2])
  (rw [gos_cons]; simp only [gos_nil, evS, ev, evs, mArgs, mAnds, mOrs, tAnds, tOrs, Sm.of, Sm.bl, Sm.it, mVar, mCon, conD, mCall, mPrim, mBin, mChain, mAndV, mOrV, mAndT, mOrT, mNotV, mNotT, mIf, mNil, mCons, mTup, mLst, mDic, mYes,
  List.map_cons, List.map_nil, List.cons_append, List.nil_append, List.replicate, List.length_cons, List.length_nil, List.getElem?_cons_zero, List.getElem?_cons_succ, Option.join_some, List.set_cons_zero, List.set_cons_succ, Nat.reduceAdd, Nat.reduceSub, Nat.zero_add, Nat.add_zero,
  gos_seq, gos_next, gos_brk, gos_ct, gos_retN, gos_if, gos_asg, gos_ret, gos_drop, gos_par, gos_for, gos_setIx, kR_ok, kS_ok, kQ_nx, kQ_rt, kQ_bk, kQ_ct, kQ_ex, kC_rt, kC_nx, kC_ex,
  go_ret, go_some, go_bind, go_add, go_sub, go_mul, go_mod, go_div, go_pow, go_shl, go_lt, go_le, go_gt, go_ge, go_eq, go_eqS, go_ne, go_neS, go_eqB, go_eqT0, go_bl, go_tru, go_ixT, go_ixL, go_ixR, go_lenT, go_lenL, go_lenR, go_listT, go_max2, go_min2, go_if, gos_ifB, ifB_t, ifB_f,
  atI0, atI1, atI2, M.opt_some, Option.map_some, Bool.not_true, Bool.not_false, mSlice, mPart0, mRev, go_part, go_neg, go_slT, go_revT, go_rng1, asg, exists_eq_left', Option.some.injEq, D.int.injEq, List.cons.injEq, and_true, true_and, cell0, hj])
theorem i6_two {w : Str} {y z : D} {i j : Int} (h : (D.tup [.str w, y, z]).solid = true) (hw : wB w = true) (hi : ∀ st R, Go (cD (n + 4) 6 [y]) st R = R (.ok (.int i) st)) (hj : ∀ st R, Go (cD (n + 4) 6 [z]) st R = R (.ok (.int j) st)) :
    Go (cD (n + 5) 6 [.tup [.str w, y, z]]) st R = R (.ok (.int (1 + i + j)) st) := by
  rw [cD, go_call (f := f6) rfl rfl]
  show GoS (evSs _ _ b_inner_of) _ _ _ = _
  unfold b_inner_of
  have e2 : ∀ st R, Go (cD (n + 4) 2 [.tup [.str w, y, z], .str "not", .int 2]) st R = R (.ok (.bl (shB "not" 2 (.tup [.str w, y, z]))) st) := fun st R => sp2 (n := n + 3) (k := 2) h (by omega)
  have e3 : ∀ st R, Go (cD (n + 4) 3 [.tup [.str w, y, z]]) st R = R (.ok (.bl (twB (.tup [.str w, y, z]))) st) := fun st R => sp3 (n := n + 3) h
  have q1 : leafB (.tup [.str w, y, z]) = false := by
    unfold leafB inpB ftB
    rfl
  have q2 : shB "not" 2 (.tup [.str w, y, z]) = false := by
    unfold shB
    simp
  have q3 : twB (.tup [.str w, y, z]) = true := by
    unfold twB
    simp [hw]
  (rw [gos_cons]; simp only [gos_nil, evS, ev, evs, mArgs, mAnds, mOrs, tAnds, tOrs, Sm.of, Sm.bl, Sm.it, mVar, mCon, conD, mCall, mPrim, mBin, mChain, mAndV, mOrV, mAndT, mOrT, mNotV, mNotT, mIf, mNil, mCons, mTup, mLst, mDic, mYes,
  List.map_cons, List.map_nil, List.cons_append, List.nil_append, List.replicate, List.length_cons, List.length_nil, List.getElem?_cons_zero, List.getElem?_cons_succ, Option.join_some, List.set_cons_zero, List.set_cons_succ, Nat.reduceAdd, Nat.reduceSub, Nat.zero_add, Nat.add_zero,
  gos_seq, gos_next, gos_brk, gos_ct, gos_retN, gos_if, gos_asg, gos_ret, gos_drop, gos_par, gos_for, gos_setIx, kR_ok, kS_ok, kQ_nx, kQ_rt, kQ_bk, kQ_ct, kQ_ex, kC_rt, kC_nx, kC_ex,
  go_ret, go_some, go_bind, go_add, go_sub, go_mul, go_mod, go_div, go_pow, go_shl, go_lt, go_le, go_gt, go_ge, go_eq, go_eqS, go_ne, go_neS, go_eqB, go_eqT0, go_bl, go_tru, go_ixT, go_ixL, go_ixR, go_lenT, go_lenL, go_lenR, go_listT, go_max2, go_min2, go_if, gos_ifB, ifB_t, ifB_f,
  atI0, atI1, atI2, M.opt_some, Option.map_some, Bool.not_true, Bool.not_false, mSlice, mPart0, mRev, go_part, go_neg, go_slT, go_revT, go_rng1, asg, exists_eq_left', Option.some.injEq, D.int.injEq, List.cons.injEq, and_true, true_and, cell0, sp5 (n := n) h, q1])
  (rw [gos_cons]; simp only [gos_nil, evS, ev, evs, mArgs, mAnds, mOrs, tAnds, tOrs, Sm.of, Sm.bl, Sm.it, mVar, mCon, conD, mCall, mPrim, mBin, mChain, mAndV, mOrV, mAndT, mOrT, mNotV, mNotT, mIf, mNil, mCons, mTup, mLst, mDic, mYes,
  List.map_cons, List.map_nil, List.cons_append, List.nil_append, List.replicate, List.length_cons, List.length_nil, List.getElem?_cons_zero, List.getElem?_cons_succ, Option.join_some, List.set_cons_zero, List.set_cons_succ, Nat.reduceAdd, Nat.reduceSub, Nat.zero_add, Nat.add_zero,
  gos_seq, gos_next, gos_brk, gos_ct, gos_retN, gos_if, gos_asg, gos_ret, gos_drop, gos_par, gos_for, gos_setIx, kR_ok, kS_ok, kQ_nx, kQ_rt, kQ_bk, kQ_ct, kQ_ex, kC_rt, kC_nx, kC_ex,
  go_ret, go_some, go_bind, go_add, go_sub, go_mul, go_mod, go_div, go_pow, go_shl, go_lt, go_le, go_gt, go_ge, go_eq, go_eqS, go_ne, go_neS, go_eqB, go_eqT0, go_bl, go_tru, go_ixT, go_ixL, go_ixR, go_lenT, go_lenL, go_lenR, go_listT, go_max2, go_min2, go_if, gos_ifB, ifB_t, ifB_f,
  atI0, atI1, atI2, M.opt_some, Option.map_some, Bool.not_true, Bool.not_false, mSlice, mPart0, mRev, go_part, go_neg, go_slT, go_revT, go_rng1, asg, exists_eq_left', Option.some.injEq, D.int.injEq, List.cons.injEq, and_true, true_and, cell0, e2, q2])
  (rw [gos_cons]; simp only [gos_nil, evS, ev, evs, mArgs, mAnds, mOrs, tAnds, tOrs, Sm.of, Sm.bl, Sm.it, mVar, mCon, conD, mCall, mPrim, mBin, mChain, mAndV, mOrV, mAndT, mOrT, mNotV, mNotT, mIf, mNil, mCons, mTup, mLst, mDic, mYes,
  List.map_cons, List.map_nil, List.cons_append, List.nil_append, List.replicate, List.length_cons, List.length_nil, List.getElem?_cons_zero, List.getElem?_cons_succ, Option.join_some, List.set_cons_zero, List.set_cons_succ, Nat.reduceAdd, Nat.reduceSub, Nat.zero_add, Nat.add_zero,
  gos_seq, gos_next, gos_brk, gos_ct, gos_retN, gos_if, gos_asg, gos_ret, gos_drop, gos_par, gos_for, gos_setIx, kR_ok, kS_ok, kQ_nx, kQ_rt, kQ_bk, kQ_ct, kQ_ex, kC_rt, kC_nx, kC_ex,
  go_ret, go_some, go_bind, go_add, go_sub, go_mul, go_mod, go_div, go_pow, go_shl, go_lt, go_le, go_gt, go_ge, go_eq, go_eqS, go_ne, go_neS, go_eqB, go_eqT0, go_bl, go_tru, go_ixT, go_ixL, go_ixR, go_lenT, go_lenL, go_lenR, go_listT, go_max2, go_min2, go_if, gos_ifB, ifB_t, ifB_f,
  atI0, atI1, atI2, M.opt_some, Option.map_some, Bool.not_true, Bool.not_false, mSlice, mPart0, mRev, go_part, go_neg, go_slT, go_revT, go_rng1, asg, exists_eq_left', Option.some.injEq, D.int.injEq, List.cons.injEq, and_true, true_and, cell0, e3, q3])
  (rw [gos_cons]; simp only [gos_nil, evS, ev, evs, mArgs, mAnds, mOrs, tAnds, tOrs, Sm.of, Sm.bl, Sm.it, mVar, mCon, conD, mCall, mPrim, mBin, mChain, mAndV, mOrV, mAndT, mOrT, mNotV, mNotT, mIf, mNil, mCons, mTup, mLst, mDic, mYes,
  List.map_cons, List.map_nil, List.cons_append, List.nil_append, List.replicate, List.length_cons, List.length_nil, List.getElem?_cons_zero, List.getElem?_cons_succ, Option.join_some, List.set_cons_zero, List.set_cons_succ, Nat.reduceAdd, Nat.reduceSub, Nat.zero_add, Nat.add_zero,
  gos_seq, gos_next, gos_brk, gos_ct, gos_retN, gos_if, gos_asg, gos_ret, gos_drop, gos_par, gos_for, gos_setIx, kR_ok, kS_ok, kQ_nx, kQ_rt, kQ_bk, kQ_ct, kQ_ex, kC_rt, kC_nx, kC_ex,
  go_ret, go_some, go_bind, go_add, go_sub, go_mul, go_mod, go_div, go_pow, go_shl, go_lt, go_le, go_gt, go_ge, go_eq, go_eqS, go_ne, go_neS, go_eqB, go_eqT0, go_bl, go_tru, go_ixT, go_ixL, go_ixR, go_lenT, go_lenL, go_lenR, go_listT, go_max2, go_min2, go_if, gos_ifB, ifB_t, ifB_f,
  atI0, atI1, atI2, M.opt_some, Option.map_some, Bool.not_true, Bool.not_false, mSlice, mPart0, mRev, go_part, go_neg, go_slT, go_revT, go_rng1, asg, exists_eq_left', Option.some.injEq, D.int.injEq, List.cons.injEq, and_true, true_and, cell0, hi, hj])
end
theorem leaf_len {l : List D} (h : ¬ l.length = 2) : leafB (.tup l) = false := by
  show inpB (.tup l) = false
  unfold inpB
  split
  · rename_i x y e
    cases e
    exact absurd rfl h
  · rfl
theorem leaf_head {x : D} {l : List D} (h : isaB x "str" = false) : leafB (.tup (x :: l)) = false := by
  show inpB (.tup (x :: l)) = false
  unfold inpB
  split
  · rename_i z y e
    cases e
    exact absurd h (by rw [isaS]; decide)
  · rfl
/-- both counts of a thing -/
def Both (m : Nat) (d : D) : Prop := ∃ i j : Int, (∀ n st R, Go (cD (n + m + 5) 6 [d]) st R = R (.ok (.int i) st)) ∧ (∀ n st R, Go (cD (n + m + 5) 18 [d]) st R = R (.ok (.int j) st)) ∧ ((i = j ∧ 0 ≤ i) ∨ (13 ≤ i ∧ 13 ≤ j))
theorem both_bad {m : Nat} {d : D} (h : d.solid = true) (h1 : leafB d = false) (h2 : shB "not" 2 d = false) (h3 : twB d = false) (h4 : ∀ n st R, Go (cD (n + m + 5) 18 [d]) st R = R (.ok (.int 99) st)) : Both m d :=
  ⟨13, 99, fun n st R => i6_bad (n := n + m) h h1 h2 h3, fun n st R => h4 n st R, .inr ⟨by omega, by omega⟩⟩
theorem both_leaf {m : Nat} {d : D} (h : d.solid = true) (h1 : leafB d = true) (h4 : ∀ n st R, Go (cD (n + m + 5) 18 [d]) st R = R (.ok (.int 0) st)) : Both m d :=
  ⟨0, 0, fun n st R => i6_leaf (n := n + m) h h1, fun n st R => h4 n st R, .inl ⟨rfl, by omega⟩⟩
theorem both_flat {m : Nat} {d : D} (h : d.solid = true) (ht : isaB d "tuple" = false) : Both m d := by
  have q2 : shB "not" 2 d = false := by cases d <;> first | rfl | (exact absurd ht (by rw [isaT]; decide))
  have q3 : twB d = false := by cases d <;> first | rfl | (exact absurd ht (by rw [isaT]; decide))
  have q4 : inpB d = false := by cases d <;> first | rfl | (exact absurd ht (by rw [isaT]; decide))
  cases q : ftB 0 63 d with
  | true => exact both_leaf h (by unfold leafB; rw [q]; rfl) fun n st R => i18_t (n := n + m) h q
  | false => exact both_bad h (by unfold leafB; rw [q, q4]; rfl) q2 q3 fun n st R => i18_n (n := n + m) h q ht
theorem both (m : Nat) : ∀ d : D, d.solid = true → D.dep d ≤ m → Both m d := by
  induction m with
  | zero =>
    intro d h hd
    refine both_flat h ?_
    cases d <;> first | rfl | (unfold D.dep at hd; omega)
  | succ m ih =>
    intro d h hd
    cases d <;> try exact both_flat h rfl
    rename_i l
    have len : ∀ l : List D, (D.tup l).solid = true → (l.length < 2 ∨ 3 < l.length) → Both (m + 1) (.tup l) := fun l h hl => by
      refine both_bad h ?_ ?_ ?_ fun n st R => i18_l (n := n + (m + 1)) h hl
      · exact leaf_len (by omega)
      · unfold shB
        split
        · rename_i x r e
          cases e
          simp only [List.length_cons] at hl
          have : ¬ r.length + 1 = 2 := by omega
          simp [this]
        · rfl
      · unfold twB
        split
        · rename_i x r e
          cases e
          simp only [List.length_cons] at hl
          have : ¬ r.length + 1 = 3 := by omega
          simp [this]
        · rfl
    have head : ∀ (x : D) (l : List D), (D.tup (x :: l)).solid = true → (l.length = 1 ∨ l.length = 2) → isaB x "str" = false → Both (m + 1) (.tup (x :: l)) := fun x l h hl hx => by
      refine both_bad h ?_ ?_ ?_ fun n st R => i18_s (n := n + (m + 1)) h hl hx
      · exact leaf_head hx
      · cases x <;> first | rfl | (exact absurd hx (by rw [isaS]; decide))
      · cases x <;> first | rfl | (exact absurd hx (by rw [isaS]; decide))
    match l, h, hd with
    | [], h, hd => exact len [] h (by simp)
    | [x], h, hd => exact len [x] h (by simp)
    | a :: b :: c :: e :: r, h, hd => exact len _ h (by simp only [List.length_cons]; omega)
    | [x, y], h, hd =>
      have hy := sol2 h
      have dy : D.dep y ≤ m := by
        unfold D.dep D.depL D.depL at hd
        omega
      cases x <;> try exact head _ _ h (by simp) rfl
      rename_i w
      obtain ⟨i, j, hi, hj, hr⟩ := ih y hy dy
      have e18 : ∀ n st R, Go (cD (n + (m + 1) + 5) 18 [.tup [.str w, y]]) st R = _ := fun n st R => i18_2 (n := n + m + 1) h (fun st R => hj n st R)
      by_cases q1 : w = "in"
      · cases q3 : ftB 0 3 y with
        | true =>
          refine both_leaf h ?_ fun n st R => ?_
          · unfold leafB ftB inpB
            simp [q1, q3]
          · rw [e18, q3]
            simp [q1, ifB]
        | false =>
          refine both_bad h ?_ ?_ ?_ fun n st R => ?_
          · unfold leafB ftB inpB
            simp [q1, q3]
          · have : ¬ (("in" : Str) = "not") := by decide
            unfold shB
            simp [q1, this]
          · unfold twB
            simp
          · rw [e18, q3]
            simp [q1, ifB]
      · by_cases q2 : w = "not"
        · subst q2
          refine ⟨1 + i, 1 + j, fun n st R => i6_not (n := n + m + 1) h fun st R => hi n st R, fun n st R => ?_, ?_⟩
          · rw [e18]
            simp [q1, ifB]
          · omega
        · refine both_bad h ?_ ?_ ?_ fun n st R => ?_
          · unfold leafB ftB inpB
            simp [q1]
          · unfold shB
            simp [q2]
          · unfold twB
            simp
          · rw [e18]
            simp [q1, q2, ifB]
    | [x, y, z], h, hd =>
      have hy := sol3 h
      have dy : D.dep y ≤ m ∧ D.dep z ≤ m := by
        unfold D.dep D.depL D.depL D.depL at hd
        omega
      cases x <;> try exact head _ _ h (by simp) rfl
      rename_i w
      obtain ⟨i, j, hi, hj, hr⟩ := ih y hy.1 dy.1
      obtain ⟨i2, j2, hi2, hj2, hr2⟩ := ih z hy.2 dy.2
      have e18 : ∀ n st R, Go (cD (n + (m + 1) + 5) 18 [.tup [.str w, y, z]]) st R = _ := fun n st R => i18_3 (n := n + m + 1) h (fun st R => hj n st R) (fun st R => hj2 n st R)
      cases q : wB w with
      | true =>
        refine ⟨1 + i + i2, 1 + j + j2, fun n st R => i6_two (n := n + m + 1) h q (fun st R => hi n st R) (fun st R => hi2 n st R), fun n st R => ?_, ?_⟩
        · rw [e18, q]
          rfl
        · omega
      | false =>
        refine both_bad h ?_ ?_ ?_ fun n st R => ?_
        · rfl
        · unfold shB
          simp
        · unfold twB
          simp [q]
        · rw [e18, q]
          rfl
end K30

set_option maxHeartbeats 4000000
namespace K30
open PySem PySem.Spec PyProof.Rows L2 MC
/-- the pen, after at most B draws -/
def PenAt (p : Nat) (B : Int) (st : Sto) : Prop := ∃ a b c : Int, st[p]? = some (.lst [.int a, .int b, .int c]) ∧ 0 ≤ a ∧ 0 ≤ b ∧ b < 1000000007 ∧ 0 ≤ c ∧ c ≤ B
theorem PenAt.mono {p : Nat} {B B' : Int} {st : Sto} (h : PenAt p B st) (e : B ≤ B') : PenAt p B' st := by
  obtain ⟨a, b, c, h1, h2, h3, h4, h5, h6⟩ := h
  exact ⟨a, b, c, h1, h2, h3, h4, h5, by omega⟩
theorem ixN0 (n : Nat) : ixN (n + 1) 0 = some 0 := by
  unfold ixN
  simp
theorem ixN2 : ixN 3 2 = some 2 := by decide
theorem ixN0' : ixN 3 0 = some 0 := by decide
section
variable {st : Sto} {R : Res D → Prop} {n p : Nat} {B : Int}
theorem draw {m : Int} (h : PenAt p B st) (hm : 0 < m) (hm2 : m < 1073741824) (hB : B ≤ 1000000) (q : ∀ r st', 0 ≤ r → r < m → PenAt p (B + 1) st' → R (.ok (.int r) st')) : Go (cD (n + 1) 10 [.cell p, .int m]) st R := by
  obtain ⟨a, b, c, h1, h2, h3, h4, h5, h6⟩ := h
  have hp : p < st.length := (List.getElem?_eq_some_iff.mp h1).1
  rw [cD, go_call (f := f10) rfl rfl]
  show GoS (evSs _ _ b_law_draw) _ _ _
  unfold b_law_draw
  (rw [gos_cons]; simp only [gos_nil, evS, ev, evs, mArgs, mAnds, mOrs, tAnds, tOrs, Sm.of, Sm.bl, Sm.it, mVar, mCon, conD, mCall, mPrim, mBin, mChain, mAndV, mOrV, mAndT, mOrT, mNotV, mNotT, mIf, mNil, mCons, mTup, mLst, mDic, mYes,
  List.map_cons, List.map_nil, List.cons_append, List.nil_append, List.replicate, List.length_cons, List.length_nil, List.getElem?_cons_zero, List.getElem?_cons_succ, Option.join_some, List.set_cons_zero, List.set_cons_succ, Nat.reduceAdd, Nat.reduceSub, Nat.zero_add, Nat.add_zero,
  gos_seq, gos_next, gos_brk, gos_ct, gos_retN, gos_if, gos_asg, gos_ret, gos_drop, gos_par, gos_for, gos_setIx, kR_ok, kS_ok, kQ_nx, kQ_rt, kQ_bk, kQ_ct, kQ_ex, kC_rt, kC_nx, kC_ex,
  go_ret, go_some, go_bind, go_add, go_sub, go_mul, go_mod, go_div, go_pow, go_shl, go_lt, go_le, go_gt, go_ge, go_eq, go_eqS, go_ne, go_neS, go_eqB, go_eqT0, go_bl, go_tru, go_ixT, go_ixL, go_ixR, go_lenT, go_lenL, go_lenR, go_listT, go_max2, go_min2, go_if, gos_ifB, ifB_t, ifB_f,
  atI0, atI1, atI2, M.opt_some, Option.map_some, Bool.not_true, Bool.not_false, mSlice, mPart0, mRev, go_part, go_neg, go_slT, go_revT, go_rng1, asg, exists_eq_left', Option.some.injEq, D.int.injEq, List.cons.injEq, and_true, true_and, go_ixC p _ _ h1])
  by_cases ha : 0 < a
  · simp only [gos_nil, evS, ev, evs, mArgs, mAnds, mOrs, tAnds, tOrs, Sm.of, Sm.bl, Sm.it, mVar, mCon, conD, mCall, mPrim, mBin, mChain, mAndV, mOrV, mAndT, mOrT, mNotV, mNotT, mIf, mNil, mCons, mTup, mLst, mDic, mYes,
  List.map_cons, List.map_nil, List.cons_append, List.nil_append, List.replicate, List.length_cons, List.length_nil, List.getElem?_cons_zero, List.getElem?_cons_succ, Option.join_some, List.set_cons_zero, List.set_cons_succ, Nat.reduceAdd, Nat.reduceSub, Nat.zero_add, Nat.add_zero,
  gos_seq, gos_next, gos_brk, gos_ct, gos_retN, gos_if, gos_asg, gos_ret, gos_drop, gos_par, gos_for, gos_setIx, kR_ok, kS_ok, kQ_nx, kQ_rt, kQ_bk, kQ_ct, kQ_ex, kC_rt, kC_nx, kC_ex,
  go_ret, go_some, go_bind, go_add, go_sub, go_mul, go_mod, go_div, go_pow, go_shl, go_lt, go_le, go_gt, go_ge, go_eq, go_eqS, go_ne, go_neS, go_eqB, go_eqT0, go_bl, go_tru, go_ixT, go_ixL, go_ixR, go_lenT, go_lenL, go_lenR, go_listT, go_max2, go_min2, go_if, gos_ifB, ifB_t, ifB_f,
  atI0, atI1, atI2, M.opt_some, Option.map_some, Bool.not_true, Bool.not_false, mSlice, mPart0, mRev, go_part, go_neg, go_slT, go_revT, go_rng1, asg, exists_eq_left', Option.some.injEq, D.int.injEq, List.cons.injEq, and_true, true_and, ha, decide_true]
    (rw [gos_cons]; simp only [gos_nil, evS, ev, evs, mArgs, mAnds, mOrs, tAnds, tOrs, Sm.of, Sm.bl, Sm.it, mVar, mCon, conD, mCall, mPrim, mBin, mChain, mAndV, mOrV, mAndT, mOrT, mNotV, mNotT, mIf, mNil, mCons, mTup, mLst, mDic, mYes,
  List.map_cons, List.map_nil, List.cons_append, List.nil_append, List.replicate, List.length_cons, List.length_nil, List.getElem?_cons_zero, List.getElem?_cons_succ, Option.join_some, List.set_cons_zero, List.set_cons_succ, Nat.reduceAdd, Nat.reduceSub, Nat.zero_add, Nat.add_zero,
  gos_seq, gos_next, gos_brk, gos_ct, gos_retN, gos_if, gos_asg, gos_ret, gos_drop, gos_par, gos_for, gos_setIx, kR_ok, kS_ok, kQ_nx, kQ_rt, kQ_bk, kQ_ct, kQ_ex, kC_rt, kC_nx, kC_ex,
  go_ret, go_some, go_bind, go_add, go_sub, go_mul, go_mod, go_div, go_pow, go_shl, go_lt, go_le, go_gt, go_ge, go_eq, go_eqS, go_ne, go_neS, go_eqB, go_eqT0, go_bl, go_tru, go_ixT, go_ixL, go_ixR, go_lenT, go_lenL, go_lenR, go_listT, go_max2, go_min2, go_if, gos_ifB, ifB_t, ifB_f,
  atI0, atI1, atI2, M.opt_some, Option.map_some, Bool.not_true, Bool.not_false, mSlice, mPart0, mRev, go_part, go_neg, go_slT, go_revT, go_rng1, asg, exists_eq_left', Option.some.injEq, D.int.injEq, List.cons.injEq, and_true, true_and, go_ixC p _ _ h1])
    refine ⟨decide_eq_true hm, ?_⟩
    (rw [gos_cons]; simp only [gos_nil, evS, ev, evs, mArgs, mAnds, mOrs, tAnds, tOrs, Sm.of, Sm.bl, Sm.it, mVar, mCon, conD, mCall, mPrim, mBin, mChain, mAndV, mOrV, mAndT, mOrT, mNotV, mNotT, mIf, mNil, mCons, mTup, mLst, mDic, mYes,
  List.map_cons, List.map_nil, List.cons_append, List.nil_append, List.replicate, List.length_cons, List.length_nil, List.getElem?_cons_zero, List.getElem?_cons_succ, Option.join_some, List.set_cons_zero, List.set_cons_succ, Nat.reduceAdd, Nat.reduceSub, Nat.zero_add, Nat.add_zero,
  gos_seq, gos_next, gos_brk, gos_ct, gos_retN, gos_if, gos_asg, gos_ret, gos_drop, gos_par, gos_for, gos_setIx, kR_ok, kS_ok, kQ_nx, kQ_rt, kQ_bk, kQ_ct, kQ_ex, kC_rt, kC_nx, kC_ex,
  go_ret, go_some, go_bind, go_add, go_sub, go_mul, go_mod, go_div, go_pow, go_shl, go_lt, go_le, go_gt, go_ge, go_eq, go_eqS, go_ne, go_neS, go_eqB, go_eqT0, go_bl, go_tru, go_ixT, go_ixL, go_ixR, go_lenT, go_lenL, go_lenR, go_listT, go_max2, go_min2, go_if, gos_ifB, ifB_t, ifB_f,
  atI0, atI1, atI2, M.opt_some, Option.map_some, Bool.not_true, Bool.not_false, mSlice, mPart0, mRev, go_part, go_neg, go_slT, go_revT, go_rng1, asg, exists_eq_left', Option.some.injEq, D.int.injEq, List.cons.injEq, and_true, true_and, go_ixC p _ _ h1])
    refine ⟨by simp [cDiv, hm, hm2], ?_⟩
    simp only [gos_nil, evS, ev, evs, mArgs, mAnds, mOrs, tAnds, tOrs, Sm.of, Sm.bl, Sm.it, mVar, mCon, conD, mCall, mPrim, mBin, mChain, mAndV, mOrV, mAndT, mOrT, mNotV, mNotT, mIf, mNil, mCons, mTup, mLst, mDic, mYes,
  List.map_cons, List.map_nil, List.cons_append, List.nil_append, List.replicate, List.length_cons, List.length_nil, List.getElem?_cons_zero, List.getElem?_cons_succ, Option.join_some, List.set_cons_zero, List.set_cons_succ, Nat.reduceAdd, Nat.reduceSub, Nat.zero_add, Nat.add_zero,
  gos_seq, gos_next, gos_brk, gos_ct, gos_retN, gos_if, gos_asg, gos_ret, gos_drop, gos_par, gos_for, gos_setIx, kR_ok, kS_ok, kQ_nx, kQ_rt, kQ_bk, kQ_ct, kQ_ex, kC_rt, kC_nx, kC_ex,
  go_ret, go_some, go_bind, go_add, go_sub, go_mul, go_mod, go_div, go_pow, go_shl, go_lt, go_le, go_gt, go_ge, go_eq, go_eqS, go_ne, go_neS, go_eqB, go_eqT0, go_bl, go_tru, go_ixT, go_ixL, go_ixR, go_lenT, go_lenL, go_lenR, go_listT, go_max2, go_min2, go_if, gos_ifB, ifB_t, ifB_f,
  atI0, atI1, atI2, M.opt_some, Option.map_some, Bool.not_true, Bool.not_false, mSlice, mPart0, mRev, go_part, go_neg, go_slT, go_revT, go_rng1, asg, exists_eq_left', Option.some.injEq, D.int.injEq, List.cons.injEq, and_true, true_and, set_cell p _ _ _ h1, ixN0']
    (rw [gos_cons]; simp only [gos_nil, evS, ev, evs, mArgs, mAnds, mOrs, tAnds, tOrs, Sm.of, Sm.bl, Sm.it, mVar, mCon, conD, mCall, mPrim, mBin, mChain, mAndV, mOrV, mAndT, mOrT, mNotV, mNotT, mIf, mNil, mCons, mTup, mLst, mDic, mYes,
  List.map_cons, List.map_nil, List.cons_append, List.nil_append, List.replicate, List.length_cons, List.length_nil, List.getElem?_cons_zero, List.getElem?_cons_succ, Option.join_some, List.set_cons_zero, List.set_cons_succ, Nat.reduceAdd, Nat.reduceSub, Nat.zero_add, Nat.add_zero,
  gos_seq, gos_next, gos_brk, gos_ct, gos_retN, gos_if, gos_asg, gos_ret, gos_drop, gos_par, gos_for, gos_setIx, kR_ok, kS_ok, kQ_nx, kQ_rt, kQ_bk, kQ_ct, kQ_ex, kC_rt, kC_nx, kC_ex,
  go_ret, go_some, go_bind, go_add, go_sub, go_mul, go_mod, go_div, go_pow, go_shl, go_lt, go_le, go_gt, go_ge, go_eq, go_eqS, go_ne, go_neS, go_eqB, go_eqT0, go_bl, go_tru, go_ixT, go_ixL, go_ixR, go_lenT, go_lenL, go_lenR, go_listT, go_max2, go_min2, go_if, gos_ifB, ifB_t, ifB_f,
  atI0, atI1, atI2, M.opt_some, Option.map_some, Bool.not_true, Bool.not_false, mSlice, mPart0, mRev, go_part, go_neg, go_slT, go_revT, go_rng1, asg, exists_eq_left', Option.some.injEq, D.int.injEq, List.cons.injEq, and_true, true_and])
    refine q _ _ (Int.emod_nonneg _ (by omega)) (Int.emod_lt_of_pos _ hm) ⟨a / m, b, c, ?_, ?_, h3, h4, h5, by omega⟩
    · rw [List.getElem?_set_self hp]
    · exact Int.ediv_nonneg h2 (by omega)
  · simp only [gos_nil, evS, ev, evs, mArgs, mAnds, mOrs, tAnds, tOrs, Sm.of, Sm.bl, Sm.it, mVar, mCon, conD, mCall, mPrim, mBin, mChain, mAndV, mOrV, mAndT, mOrT, mNotV, mNotT, mIf, mNil, mCons, mTup, mLst, mDic, mYes,
  List.map_cons, List.map_nil, List.cons_append, List.nil_append, List.replicate, List.length_cons, List.length_nil, List.getElem?_cons_zero, List.getElem?_cons_succ, Option.join_some, List.set_cons_zero, List.set_cons_succ, Nat.reduceAdd, Nat.reduceSub, Nat.zero_add, Nat.add_zero,
  gos_seq, gos_next, gos_brk, gos_ct, gos_retN, gos_if, gos_asg, gos_ret, gos_drop, gos_par, gos_for, gos_setIx, kR_ok, kS_ok, kQ_nx, kQ_rt, kQ_bk, kQ_ct, kQ_ex, kC_rt, kC_nx, kC_ex,
  go_ret, go_some, go_bind, go_add, go_sub, go_mul, go_mod, go_div, go_pow, go_shl, go_lt, go_le, go_gt, go_ge, go_eq, go_eqS, go_ne, go_neS, go_eqB, go_eqT0, go_bl, go_tru, go_ixT, go_ixL, go_ixR, go_lenT, go_lenL, go_lenR, go_listT, go_max2, go_min2, go_if, gos_ifB, ifB_t, ifB_f,
  atI0, atI1, atI2, M.opt_some, Option.map_some, Bool.not_true, Bool.not_false, mSlice, mPart0, mRev, go_part, go_neg, go_slT, go_revT, go_rng1, asg, exists_eq_left', Option.some.injEq, D.int.injEq, List.cons.injEq, and_true, true_and, ha, decide_false]
    (rw [gos_cons]; simp only [gos_nil, evS, ev, evs, mArgs, mAnds, mOrs, tAnds, tOrs, Sm.of, Sm.bl, Sm.it, mVar, mCon, conD, mCall, mPrim, mBin, mChain, mAndV, mOrV, mAndT, mOrT, mNotV, mNotT, mIf, mNil, mCons, mTup, mLst, mDic, mYes,
  List.map_cons, List.map_nil, List.cons_append, List.nil_append, List.replicate, List.length_cons, List.length_nil, List.getElem?_cons_zero, List.getElem?_cons_succ, Option.join_some, List.set_cons_zero, List.set_cons_succ, Nat.reduceAdd, Nat.reduceSub, Nat.zero_add, Nat.add_zero,
  gos_seq, gos_next, gos_brk, gos_ct, gos_retN, gos_if, gos_asg, gos_ret, gos_drop, gos_par, gos_for, gos_setIx, kR_ok, kS_ok, kQ_nx, kQ_rt, kQ_bk, kQ_ct, kQ_ex, kC_rt, kC_nx, kC_ex,
  go_ret, go_some, go_bind, go_add, go_sub, go_mul, go_mod, go_div, go_pow, go_shl, go_lt, go_le, go_gt, go_ge, go_eq, go_eqS, go_ne, go_neS, go_eqB, go_eqT0, go_bl, go_tru, go_ixT, go_ixL, go_ixR, go_lenT, go_lenL, go_lenR, go_listT, go_max2, go_min2, go_if, gos_ifB, ifB_t, ifB_f,
  atI0, atI1, atI2, M.opt_some, Option.map_some, Bool.not_true, Bool.not_false, mSlice, mPart0, mRev, go_part, go_neg, go_slT, go_revT, go_rng1, asg, exists_eq_left', Option.some.injEq, D.int.injEq, List.cons.injEq, and_true, true_and, go_ixC p _ _ h1, set_cell p _ _ _ h1, ixN2])
    have h1' : (st.set p (.lst [.int a, .int b, .int (c + 1)]))[p]? = some (.lst [.int a, .int b, .int (c + 1)]) := by
      rw [List.getElem?_set_self hp]
    generalize st.set p (.lst [.int a, .int b, .int (c + 1)]) = st1 at h1' ⊢
    have c1 : cMul 17 (c + 1) = true := by simp [cMul]
    have c2 : cMul 2 (c + 1) = true := by simp [cMul]
    have c3 : cMul (b + 17 * (c + 1)) (69621 + 2 * (c + 1)) = true := by
      unfold cMul
      rw [Bool.or_eq_true, decide_eq_true_eq, decide_eq_true_eq]
      exact .inl (by omega)
    (rw [gos_cons]; simp only [gos_nil, evS, ev, evs, mArgs, mAnds, mOrs, tAnds, tOrs, Sm.of, Sm.bl, Sm.it, mVar, mCon, conD, mCall, mPrim, mBin, mChain, mAndV, mOrV, mAndT, mOrT, mNotV, mNotT, mIf, mNil, mCons, mTup, mLst, mDic, mYes,
  List.map_cons, List.map_nil, List.cons_append, List.nil_append, List.replicate, List.length_cons, List.length_nil, List.getElem?_cons_zero, List.getElem?_cons_succ, Option.join_some, List.set_cons_zero, List.set_cons_succ, Nat.reduceAdd, Nat.reduceSub, Nat.zero_add, Nat.add_zero,
  gos_seq, gos_next, gos_brk, gos_ct, gos_retN, gos_if, gos_asg, gos_ret, gos_drop, gos_par, gos_for, gos_setIx, kR_ok, kS_ok, kQ_nx, kQ_rt, kQ_bk, kQ_ct, kQ_ex, kC_rt, kC_nx, kC_ex,
  go_ret, go_some, go_bind, go_add, go_sub, go_mul, go_mod, go_div, go_pow, go_shl, go_lt, go_le, go_gt, go_ge, go_eq, go_eqS, go_ne, go_neS, go_eqB, go_eqT0, go_bl, go_tru, go_ixT, go_ixL, go_ixR, go_lenT, go_lenL, go_lenR, go_listT, go_max2, go_min2, go_if, gos_ifB, ifB_t, ifB_f,
  atI0, atI1, atI2, M.opt_some, Option.map_some, Bool.not_true, Bool.not_false, mSlice, mPart0, mRev, go_part, go_neg, go_slT, go_revT, go_rng1, asg, exists_eq_left', Option.some.injEq, D.int.injEq, List.cons.injEq, and_true, true_and, go_ixC p _ _ h1', c1, c2, c3, true_and])
    refine ⟨by simp [cMod], ?_⟩
    have e0 := Int.emod_nonneg ((b + 17 * (c + 1)) * (69621 + 2 * (c + 1))) (show (2147483647 : Int) ≠ 0 by decide)
    have e1 := Int.emod_lt_of_pos ((b + 17 * (c + 1)) * (69621 + 2 * (c + 1))) (show (0 : Int) < 2147483647 by decide)
    generalize (b + 17 * (c + 1)) * (69621 + 2 * (c + 1)) % 2147483647 = x at e0 e1
    have c4 : cMul x x = true := by
      unfold cMul
      rw [Bool.or_self, decide_eq_true_eq]
      omega
    have c5 : cMul 40503 (c + 1) = true := by simp [cMul]
    (rw [gos_cons]; simp only [gos_nil, evS, ev, evs, mArgs, mAnds, mOrs, tAnds, tOrs, Sm.of, Sm.bl, Sm.it, mVar, mCon, conD, mCall, mPrim, mBin, mChain, mAndV, mOrV, mAndT, mOrT, mNotV, mNotT, mIf, mNil, mCons, mTup, mLst, mDic, mYes,
  List.map_cons, List.map_nil, List.cons_append, List.nil_append, List.replicate, List.length_cons, List.length_nil, List.getElem?_cons_zero, List.getElem?_cons_succ, Option.join_some, List.set_cons_zero, List.set_cons_succ, Nat.reduceAdd, Nat.reduceSub, Nat.zero_add, Nat.add_zero,
  gos_seq, gos_next, gos_brk, gos_ct, gos_retN, gos_if, gos_asg, gos_ret, gos_drop, gos_par, gos_for, gos_setIx, kR_ok, kS_ok, kQ_nx, kQ_rt, kQ_bk, kQ_ct, kQ_ex, kC_rt, kC_nx, kC_ex,
  go_ret, go_some, go_bind, go_add, go_sub, go_mul, go_mod, go_div, go_pow, go_shl, go_lt, go_le, go_gt, go_ge, go_eq, go_eqS, go_ne, go_neS, go_eqB, go_eqT0, go_bl, go_tru, go_ixT, go_ixL, go_ixR, go_lenT, go_lenL, go_lenR, go_listT, go_max2, go_min2, go_if, gos_ifB, ifB_t, ifB_f,
  atI0, atI1, atI2, M.opt_some, Option.map_some, Bool.not_true, Bool.not_false, mSlice, mPart0, mRev, go_part, go_neg, go_slT, go_revT, go_rng1, asg, exists_eq_left', Option.some.injEq, D.int.injEq, List.cons.injEq, and_true, true_and, go_ixC p _ _ h1', c4, c5, true_and])
    refine ⟨by simp [cMod], ?_⟩
    have e0 := Int.emod_nonneg (x * x + 40503 * (c + 1) + 5) (show (2147483629 : Int) ≠ 0 by decide)
    have e1 := Int.emod_lt_of_pos (x * x + 40503 * (c + 1) + 5) (show (0 : Int) < 2147483629 by decide)
    generalize (x * x + 40503 * (c + 1) + 5) % 2147483629 = y at e0 e1
    have c6 : cMul y 48271 = true := by simp [cMul]
    (rw [gos_cons]; simp only [gos_nil, evS, ev, evs, mArgs, mAnds, mOrs, tAnds, tOrs, Sm.of, Sm.bl, Sm.it, mVar, mCon, conD, mCall, mPrim, mBin, mChain, mAndV, mOrV, mAndT, mOrT, mNotV, mNotT, mIf, mNil, mCons, mTup, mLst, mDic, mYes,
  List.map_cons, List.map_nil, List.cons_append, List.nil_append, List.replicate, List.length_cons, List.length_nil, List.getElem?_cons_zero, List.getElem?_cons_succ, Option.join_some, List.set_cons_zero, List.set_cons_succ, Nat.reduceAdd, Nat.reduceSub, Nat.zero_add, Nat.add_zero,
  gos_seq, gos_next, gos_brk, gos_ct, gos_retN, gos_if, gos_asg, gos_ret, gos_drop, gos_par, gos_for, gos_setIx, kR_ok, kS_ok, kQ_nx, kQ_rt, kQ_bk, kQ_ct, kQ_ex, kC_rt, kC_nx, kC_ex,
  go_ret, go_some, go_bind, go_add, go_sub, go_mul, go_mod, go_div, go_pow, go_shl, go_lt, go_le, go_gt, go_ge, go_eq, go_eqS, go_ne, go_neS, go_eqB, go_eqT0, go_bl, go_tru, go_ixT, go_ixL, go_ixR, go_lenT, go_lenL, go_lenR, go_listT, go_max2, go_min2, go_if, gos_ifB, ifB_t, ifB_f,
  atI0, atI1, atI2, M.opt_some, Option.map_some, Bool.not_true, Bool.not_false, mSlice, mPart0, mRev, go_part, go_neg, go_slT, go_revT, go_rng1, asg, exists_eq_left', Option.some.injEq, D.int.injEq, List.cons.injEq, and_true, true_and, c6, true_and])
    refine ⟨by simp [cMod], by simp [cDiv], by simp [cMod, hm], ?_⟩
    refine q _ _ (Int.emod_nonneg _ (by omega)) (Int.emod_lt_of_pos _ hm) ⟨a, b, c + 1, h1', h2, h3, h4, by omega, by omega⟩
end
end K30

set_option maxHeartbeats 4000000
namespace K30
open PySem PySem.Spec PyProof.Rows L2 MC
theorem PenAt.nn {p : Nat} {B : Int} {st : Sto} (h : PenAt p B st) : 0 ≤ B := by
  obtain ⟨a, b, c, h1, h2, h3, h4, h5, h6⟩ := h
  omega
/-- data of a size -/
structure Th (M w h : Nat) (d : D) : Prop where
  fine : d.fine M = true
  wt : d.wt ≤ w
  dep : d.dep ≤ h
theorem Th.mono {M w h M' w' h' : Nat} {d : D} (t : Th M w h d) (a : M ≤ M') (b : w ≤ w') (c : h ≤ h') : Th M' w' h' d := ⟨fine_mono a d t.fine, Nat.le_trans t.wt b, Nat.le_trans t.dep c⟩
theorem th_int {M : Nat} {i : Int} (h : i.natAbs ≤ M) : Th M 1 0 (.int i) := ⟨by unfold D.fine; exact decide_eq_true h, by unfold D.wt; omega, by unfold D.dep; omega⟩
theorem th_str {M : Nat} {x : Str} (h : (reprText x).length ≤ 90) : Th M 1 0 (.str x) := ⟨by unfold D.fine; exact decide_eq_true h, by unfold D.wt; omega, by unfold D.dep; omega⟩
theorem th_tup {M w h : Nat} {l : List D} (h1 : D.fineL M l = true) (h2 : D.wtL l + 1 ≤ w) (h3 : D.depL l + 1 ≤ h) : Th M w h (.tup l) := ⟨by unfold D.fine; exact h1, by unfold D.wt; omega, by unfold D.dep; omega⟩
theorem th_t1 {M w h : Nat} {x : D} (a : Th M w h x) : Th M (w + 1) (h + 1) (.tup [x]) := by
  refine th_tup ?_ ?_ ?_
  · rw [fineL_cons, a.fine]; rfl
  · rw [wtL_cons]; have := a.wt; simp only [D.wtL]; omega
  · rw [depL_cons]; have := a.dep; simp only [D.depL]; omega
theorem th_t2 {M w h w2 h2 : Nat} {x y : D} (a : Th M w h x) (b : Th M w2 h2 y) : Th M (w + w2 + 1) (max h h2 + 1) (.tup [x, y]) := by
  refine th_tup ?_ ?_ ?_
  · rw [fineL_cons, fineL_cons, a.fine, b.fine]; rfl
  · rw [wtL_cons, wtL_cons]; have := a.wt; have := b.wt; simp only [D.wtL]; omega
  · rw [depL_cons, depL_cons]; have := a.dep; have := b.dep; simp only [D.depL]; omega
theorem th_t3 {M w h w2 h2 w3 h3 : Nat} {x y z : D} (a : Th M w h x) (b : Th M w2 h2 y) (c : Th M w3 h3 z) : Th M (w + w2 + w3 + 1) (max h (max h2 h3) + 1) (.tup [x, y, z]) := by
  refine th_tup ?_ ?_ ?_
  · rw [fineL_cons, fineL_cons, fineL_cons, a.fine, b.fine, c.fine]; rfl
  · rw [wtL_cons, wtL_cons, wtL_cons]; have := a.wt; have := b.wt; have := c.wt; simp only [D.wtL]; omega
  · rw [depL_cons, depL_cons, depL_cons]; have := a.dep; have := b.dep; have := c.dep; simp only [D.depL]; omega
section
variable {st : Sto} {R : Res D → Prop} {n p : Nat} {B : Int}
theorem leaf (h : PenAt p B st) (hB : B + 3 ≤ 1000000) (q : ∀ d st', Th 63 3 1 d → PenAt p (B + 3) st' → R (.ok d st')) : Go (cD (n + 2) 15 [.cell p, .int 6, .int 4]) st R := by
  rw [cD, go_call (f := f15) rfl rfl]
  show GoS (evSs _ _ b_law_leaf) _ _ _
  unfold b_law_leaf
  (rw [gos_cons]; simp only [gos_nil, evS, ev, evs, mArgs, mAnds, mOrs, tAnds, tOrs, Sm.of, Sm.bl, Sm.it, mVar, mCon, conD, mCall, mPrim, mBin, mChain, mAndV, mOrV, mAndT, mOrT, mNotV, mNotT, mIf, mNil, mCons, mTup, mLst, mDic, mYes,
  List.map_cons, List.map_nil, List.cons_append, List.nil_append, List.replicate, List.length_cons, List.length_nil, List.getElem?_cons_zero, List.getElem?_cons_succ, Option.join_some, List.set_cons_zero, List.set_cons_succ, Nat.reduceAdd, Nat.reduceSub, Nat.zero_add, Nat.add_zero,
  gos_seq, gos_next, gos_brk, gos_ct, gos_retN, gos_if, gos_asg, gos_ret, gos_drop, gos_par, gos_for, gos_setIx, kR_ok, kS_ok, kQ_nx, kQ_rt, kQ_bk, kQ_ct, kQ_ex, kC_rt, kC_nx, kC_ex,
  go_ret, go_some, go_bind, go_add, go_sub, go_mul, go_mod, go_div, go_pow, go_shl, go_lt, go_le, go_gt, go_ge, go_eq, go_eqS, go_ne, go_neS, go_eqB, go_eqT0, go_bl, go_tru, go_ixT, go_ixL, go_ixR, go_lenT, go_lenL, go_lenR, go_listT, go_max2, go_min2, go_if, gos_ifB, ifB_t, ifB_f,
  atI0, atI1, atI2, M.opt_some, Option.map_some, Bool.not_true, Bool.not_false, mSlice, mPart0, mRev, go_part, go_neg, go_slT, go_revT, go_rng1, asg, exists_eq_left', Option.some.injEq, D.int.injEq, List.cons.injEq, and_true, true_and, cell0])
  refine ⟨by decide, ?_⟩
  have e : (1 * 2 ^ (6 : Int).toNat : Int) = 64 := by decide
  rw [e]
  refine draw h (by omega) (by omega) (by omega) fun r1 st1 a1 b1 h1 => ?_
  simp only [gos_nil, evS, ev, evs, mArgs, mAnds, mOrs, tAnds, tOrs, Sm.of, Sm.bl, Sm.it, mVar, mCon, conD, mCall, mPrim, mBin, mChain, mAndV, mOrV, mAndT, mOrT, mNotV, mNotT, mIf, mNil, mCons, mTup, mLst, mDic, mYes,
  List.map_cons, List.map_nil, List.cons_append, List.nil_append, List.replicate, List.length_cons, List.length_nil, List.getElem?_cons_zero, List.getElem?_cons_succ, Option.join_some, List.set_cons_zero, List.set_cons_succ, Nat.reduceAdd, Nat.reduceSub, Nat.zero_add, Nat.add_zero,
  gos_seq, gos_next, gos_brk, gos_ct, gos_retN, gos_if, gos_asg, gos_ret, gos_drop, gos_par, gos_for, gos_setIx, kR_ok, kS_ok, kQ_nx, kQ_rt, kQ_bk, kQ_ct, kQ_ex, kC_rt, kC_nx, kC_ex,
  go_ret, go_some, go_bind, go_add, go_sub, go_mul, go_mod, go_div, go_pow, go_shl, go_lt, go_le, go_gt, go_ge, go_eq, go_eqS, go_ne, go_neS, go_eqB, go_eqT0, go_bl, go_tru, go_ixT, go_ixL, go_ixR, go_lenT, go_lenL, go_lenR, go_listT, go_max2, go_min2, go_if, gos_ifB, ifB_t, ifB_f,
  atI0, atI1, atI2, M.opt_some, Option.map_some, Bool.not_true, Bool.not_false, mSlice, mPart0, mRev, go_part, go_neg, go_slT, go_revT, go_rng1, asg, exists_eq_left', Option.some.injEq, D.int.injEq, List.cons.injEq, and_true, true_and, cell0]
  refine draw h1 (by omega) (by omega) (by omega) fun r2 st2 a2 b2 h2 => ?_
  have hL : 2 ≤ LIM := by decide
  simp only [gos_nil, evS, ev, evs, mArgs, mAnds, mOrs, tAnds, tOrs, Sm.of, Sm.bl, Sm.it, mVar, mCon, conD, mCall, mPrim, mBin, mChain, mAndV, mOrV, mAndT, mOrT, mNotV, mNotT, mIf, mNil, mCons, mTup, mLst, mDic, mYes,
  List.map_cons, List.map_nil, List.cons_append, List.nil_append, List.replicate, List.length_cons, List.length_nil, List.getElem?_cons_zero, List.getElem?_cons_succ, Option.join_some, List.set_cons_zero, List.set_cons_succ, Nat.reduceAdd, Nat.reduceSub, Nat.zero_add, Nat.add_zero,
  gos_seq, gos_next, gos_brk, gos_ct, gos_retN, gos_if, gos_asg, gos_ret, gos_drop, gos_par, gos_for, gos_setIx, kR_ok, kS_ok, kQ_nx, kQ_rt, kQ_bk, kQ_ct, kQ_ex, kC_rt, kC_nx, kC_ex,
  go_ret, go_some, go_bind, go_add, go_sub, go_mul, go_mod, go_div, go_pow, go_shl, go_lt, go_le, go_gt, go_ge, go_eq, go_eqS, go_ne, go_neS, go_eqB, go_eqT0, go_bl, go_tru, go_ixT, go_ixL, go_ixR, go_lenT, go_lenL, go_lenR, go_listT, go_max2, go_min2, go_if, gos_ifB, ifB_t, ifB_f,
  atI0, atI1, atI2, M.opt_some, Option.map_some, Bool.not_true, Bool.not_false, mSlice, mPart0, mRev, go_part, go_neg, go_slT, go_revT, go_rng1, asg, exists_eq_left', Option.some.injEq, D.int.injEq, List.cons.injEq, and_true, true_and, cell0, hL, if_true]
  refine draw h2 (by omega) (by omega) (by omega) fun r3 st3 a3 b3 h3 => ?_
  simp only [gos_nil, evS, ev, evs, mArgs, mAnds, mOrs, tAnds, tOrs, Sm.of, Sm.bl, Sm.it, mVar, mCon, conD, mCall, mPrim, mBin, mChain, mAndV, mOrV, mAndT, mOrT, mNotV, mNotT, mIf, mNil, mCons, mTup, mLst, mDic, mYes,
  List.map_cons, List.map_nil, List.cons_append, List.nil_append, List.replicate, List.length_cons, List.length_nil, List.getElem?_cons_zero, List.getElem?_cons_succ, Option.join_some, List.set_cons_zero, List.set_cons_succ, Nat.reduceAdd, Nat.reduceSub, Nat.zero_add, Nat.add_zero,
  gos_seq, gos_next, gos_brk, gos_ct, gos_retN, gos_if, gos_asg, gos_ret, gos_drop, gos_par, gos_for, gos_setIx, kR_ok, kS_ok, kQ_nx, kQ_rt, kQ_bk, kQ_ct, kQ_ex, kC_rt, kC_nx, kC_ex,
  go_ret, go_some, go_bind, go_add, go_sub, go_mul, go_mod, go_div, go_pow, go_shl, go_lt, go_le, go_gt, go_ge, go_eq, go_eqS, go_ne, go_neS, go_eqB, go_eqT0, go_bl, go_tru, go_ixT, go_ixL, go_ixR, go_lenT, go_lenL, go_lenR, go_listT, go_max2, go_min2, go_if, gos_ifB, ifB_t, ifB_f,
  atI0, atI1, atI2, M.opt_some, Option.map_some, Bool.not_true, Bool.not_false, mSlice, mPart0, mRev, go_part, go_neg, go_slT, go_revT, go_rng1, asg, exists_eq_left', Option.some.injEq, D.int.injEq, List.cons.injEq, and_true, true_and]
  obtain ⟨d, e1, hd⟩ := atI_mem [D.int r1, .tup [.str "in", .int r2]] r3 a3 (by simp; omega)
  refine ⟨d, e1, q d st3 ?_ (h3.mono (by omega))⟩
  simp only [List.mem_cons, List.not_mem_nil, or_false] at hd
  rcases hd with rfl | rfl
  · exact (th_int (by omega)).mono (Nat.le_refl _) (by omega) (by omega)
  · exact (th_t2 (th_str (by decide +kernel)) (th_int (by omega))).mono (Nat.le_refl _) (by omega) (by omega)
theorem pick {l : List D} (h : PenAt p B st) (hB : B + 1 ≤ 1000000) (h0 : 0 < l.length) (h1 : l.length ≤ 1000) (q : ∀ d st', d ∈ l → PenAt p (B + 1) st' → R (.ok d st')) : Go (cD (n + 2) 11 [.cell p, .lst l]) st R := by
  rw [cD, go_call (f := f11) rfl rfl]
  show GoS (evSs _ _ b_law_pick) _ _ _
  unfold b_law_pick
  (rw [gos_cons]; simp only [gos_nil, evS, ev, evs, mArgs, mAnds, mOrs, tAnds, tOrs, Sm.of, Sm.bl, Sm.it, mVar, mCon, conD, mCall, mPrim, mBin, mChain, mAndV, mOrV, mAndT, mOrT, mNotV, mNotT, mIf, mNil, mCons, mTup, mLst, mDic, mYes,
  List.map_cons, List.map_nil, List.cons_append, List.nil_append, List.replicate, List.length_cons, List.length_nil, List.getElem?_cons_zero, List.getElem?_cons_succ, Option.join_some, List.set_cons_zero, List.set_cons_succ, Nat.reduceAdd, Nat.reduceSub, Nat.zero_add, Nat.add_zero,
  gos_seq, gos_next, gos_brk, gos_ct, gos_retN, gos_if, gos_asg, gos_ret, gos_drop, gos_par, gos_for, gos_setIx, kR_ok, kS_ok, kQ_nx, kQ_rt, kQ_bk, kQ_ct, kQ_ex, kC_rt, kC_nx, kC_ex,
  go_ret, go_some, go_bind, go_add, go_sub, go_mul, go_mod, go_div, go_pow, go_shl, go_lt, go_le, go_gt, go_ge, go_eq, go_eqS, go_ne, go_neS, go_eqB, go_eqT0, go_bl, go_tru, go_ixT, go_ixL, go_ixR, go_lenT, go_lenL, go_lenR, go_listT, go_max2, go_min2, go_if, gos_ifB, ifB_t, ifB_f,
  atI0, atI1, atI2, M.opt_some, Option.map_some, Bool.not_true, Bool.not_false, mSlice, mPart0, mRev, go_part, go_neg, go_slT, go_revT, go_rng1, asg, exists_eq_left', Option.some.injEq, D.int.injEq, List.cons.injEq, and_true, true_and, cell0])
  refine draw h (by omega) (by omega) (by omega) fun r1 st1 a1 b1 h1 => ?_
  simp only [gos_nil, evS, ev, evs, mArgs, mAnds, mOrs, tAnds, tOrs, Sm.of, Sm.bl, Sm.it, mVar, mCon, conD, mCall, mPrim, mBin, mChain, mAndV, mOrV, mAndT, mOrT, mNotV, mNotT, mIf, mNil, mCons, mTup, mLst, mDic, mYes,
  List.map_cons, List.map_nil, List.cons_append, List.nil_append, List.replicate, List.length_cons, List.length_nil, List.getElem?_cons_zero, List.getElem?_cons_succ, Option.join_some, List.set_cons_zero, List.set_cons_succ, Nat.reduceAdd, Nat.reduceSub, Nat.zero_add, Nat.add_zero,
  gos_seq, gos_next, gos_brk, gos_ct, gos_retN, gos_if, gos_asg, gos_ret, gos_drop, gos_par, gos_for, gos_setIx, kR_ok, kS_ok, kQ_nx, kQ_rt, kQ_bk, kQ_ct, kQ_ex, kC_rt, kC_nx, kC_ex,
  go_ret, go_some, go_bind, go_add, go_sub, go_mul, go_mod, go_div, go_pow, go_shl, go_lt, go_le, go_gt, go_ge, go_eq, go_eqS, go_ne, go_neS, go_eqB, go_eqT0, go_bl, go_tru, go_ixT, go_ixL, go_ixR, go_lenT, go_lenL, go_lenR, go_listT, go_max2, go_min2, go_if, gos_ifB, ifB_t, ifB_f,
  atI0, atI1, atI2, M.opt_some, Option.map_some, Bool.not_true, Bool.not_false, mSlice, mPart0, mRev, go_part, go_neg, go_slT, go_revT, go_rng1, asg, exists_eq_left', Option.some.injEq, D.int.injEq, List.cons.injEq, and_true, true_and]
  obtain ⟨d, e1, hd⟩ := atI_mem l r1 a1 b1
  exact ⟨d, e1, q d st1 hd h1⟩
theorem word_str {d : D} (h : d ∈ W) : ∃ w : Str, d = .str w ∧ (reprText w).length ≤ 90 := by
  unfold W at h
  simp only [List.mem_cons, List.not_mem_nil, or_false] at h
  rcases h with rfl | rfl | rfl | rfl | rfl | rfl | rfl | rfl <;> exact ⟨_, rfl, by decide +kernel⟩
theorem tree (l : Nat) : ∀ (n p : Nat) (B : Int) (st : Sto) (R : Res D → Prop), PenAt p B st → B + 10 * l + 5 ≤ 1000000 → (∀ d st', Th 63 (5 * l + 3) (l + 1) d → PenAt p (B + 10 * l + 5) st' → R (.ok d st')) →
    Go (cD (n + l + 3) 16 [.cell p, .int 6, .int 4, .int l]) st R := by
  induction l using Nat.strongRecOn with
  | ind l ih =>
    intro n p B st R h hB q
    rw [cD, go_call (f := f16) rfl rfl]
    show GoS (evSs _ _ b_law_tree) _ _ _
    unfold b_law_tree
    have nn := h.nn
    (rw [gos_cons]; simp only [gos_nil, evS, ev, evs, mArgs, mAnds, mOrs, tAnds, tOrs, Sm.of, Sm.bl, Sm.it, mVar, mCon, conD, mCall, mPrim, mBin, mChain, mAndV, mOrV, mAndT, mOrT, mNotV, mNotT, mIf, mNil, mCons, mTup, mLst, mDic, mYes,
  List.map_cons, List.map_nil, List.cons_append, List.nil_append, List.replicate, List.length_cons, List.length_nil, List.getElem?_cons_zero, List.getElem?_cons_succ, Option.join_some, List.set_cons_zero, List.set_cons_succ, Nat.reduceAdd, Nat.reduceSub, Nat.zero_add, Nat.add_zero,
  gos_seq, gos_next, gos_brk, gos_ct, gos_retN, gos_if, gos_asg, gos_ret, gos_drop, gos_par, gos_for, gos_setIx, kR_ok, kS_ok, kQ_nx, kQ_rt, kQ_bk, kQ_ct, kQ_ex, kC_rt, kC_nx, kC_ex,
  go_ret, go_some, go_bind, go_add, go_sub, go_mul, go_mod, go_div, go_pow, go_shl, go_lt, go_le, go_gt, go_ge, go_eq, go_eqS, go_ne, go_neS, go_eqB, go_eqT0, go_bl, go_tru, go_ixT, go_ixL, go_ixR, go_lenT, go_lenL, go_lenR, go_listT, go_max2, go_min2, go_if, gos_ifB, ifB_t, ifB_f,
  atI0, atI1, atI2, M.opt_some, Option.map_some, Bool.not_true, Bool.not_false, mSlice, mPart0, mRev, go_part, go_neg, go_slT, go_revT, go_rng1, asg, exists_eq_left', Option.some.injEq, D.int.injEq, List.cons.injEq, and_true, true_and, cell0])
    by_cases h0 : l = 0
    · subst h0
      have e : ((0 : Nat) : Int) = 0 := rfl
      simp only [gos_nil, evS, ev, evs, mArgs, mAnds, mOrs, tAnds, tOrs, Sm.of, Sm.bl, Sm.it, mVar, mCon, conD, mCall, mPrim, mBin, mChain, mAndV, mOrV, mAndT, mOrT, mNotV, mNotT, mIf, mNil, mCons, mTup, mLst, mDic, mYes,
  List.map_cons, List.map_nil, List.cons_append, List.nil_append, List.replicate, List.length_cons, List.length_nil, List.getElem?_cons_zero, List.getElem?_cons_succ, Option.join_some, List.set_cons_zero, List.set_cons_succ, Nat.reduceAdd, Nat.reduceSub, Nat.zero_add, Nat.add_zero,
  gos_seq, gos_next, gos_brk, gos_ct, gos_retN, gos_if, gos_asg, gos_ret, gos_drop, gos_par, gos_for, gos_setIx, kR_ok, kS_ok, kQ_nx, kQ_rt, kQ_bk, kQ_ct, kQ_ex, kC_rt, kC_nx, kC_ex,
  go_ret, go_some, go_bind, go_add, go_sub, go_mul, go_mod, go_div, go_pow, go_shl, go_lt, go_le, go_gt, go_ge, go_eq, go_eqS, go_ne, go_neS, go_eqB, go_eqT0, go_bl, go_tru, go_ixT, go_ixL, go_ixR, go_lenT, go_lenL, go_lenR, go_listT, go_max2, go_min2, go_if, gos_ifB, ifB_t, ifB_f,
  atI0, atI1, atI2, M.opt_some, Option.map_some, Bool.not_true, Bool.not_false, mSlice, mPart0, mRev, go_part, go_neg, go_slT, go_revT, go_rng1, asg, exists_eq_left', Option.some.injEq, D.int.injEq, List.cons.injEq, and_true, true_and, e, decide_true]
      (rw [gos_cons]; simp only [gos_nil, evS, ev, evs, mArgs, mAnds, mOrs, tAnds, tOrs, Sm.of, Sm.bl, Sm.it, mVar, mCon, conD, mCall, mPrim, mBin, mChain, mAndV, mOrV, mAndT, mOrT, mNotV, mNotT, mIf, mNil, mCons, mTup, mLst, mDic, mYes,
  List.map_cons, List.map_nil, List.cons_append, List.nil_append, List.replicate, List.length_cons, List.length_nil, List.getElem?_cons_zero, List.getElem?_cons_succ, Option.join_some, List.set_cons_zero, List.set_cons_succ, Nat.reduceAdd, Nat.reduceSub, Nat.zero_add, Nat.add_zero,
  gos_seq, gos_next, gos_brk, gos_ct, gos_retN, gos_if, gos_asg, gos_ret, gos_drop, gos_par, gos_for, gos_setIx, kR_ok, kS_ok, kQ_nx, kQ_rt, kQ_bk, kQ_ct, kQ_ex, kC_rt, kC_nx, kC_ex,
  go_ret, go_some, go_bind, go_add, go_sub, go_mul, go_mod, go_div, go_pow, go_shl, go_lt, go_le, go_gt, go_ge, go_eq, go_eqS, go_ne, go_neS, go_eqB, go_eqT0, go_bl, go_tru, go_ixT, go_ixL, go_ixR, go_lenT, go_lenL, go_lenR, go_listT, go_max2, go_min2, go_if, gos_ifB, ifB_t, ifB_f,
  atI0, atI1, atI2, M.opt_some, Option.map_some, Bool.not_true, Bool.not_false, mSlice, mPart0, mRev, go_part, go_neg, go_slT, go_revT, go_rng1, asg, exists_eq_left', Option.some.injEq, D.int.injEq, List.cons.injEq, and_true, true_and, cell0])
      refine leaf (n := n) h (by omega) fun d st' t pn => ?_
      simp only [gos_nil, evS, ev, evs, mArgs, mAnds, mOrs, tAnds, tOrs, Sm.of, Sm.bl, Sm.it, mVar, mCon, conD, mCall, mPrim, mBin, mChain, mAndV, mOrV, mAndT, mOrT, mNotV, mNotT, mIf, mNil, mCons, mTup, mLst, mDic, mYes,
  List.map_cons, List.map_nil, List.cons_append, List.nil_append, List.replicate, List.length_cons, List.length_nil, List.getElem?_cons_zero, List.getElem?_cons_succ, Option.join_some, List.set_cons_zero, List.set_cons_succ, Nat.reduceAdd, Nat.reduceSub, Nat.zero_add, Nat.add_zero,
  gos_seq, gos_next, gos_brk, gos_ct, gos_retN, gos_if, gos_asg, gos_ret, gos_drop, gos_par, gos_for, gos_setIx, kR_ok, kS_ok, kQ_nx, kQ_rt, kQ_bk, kQ_ct, kQ_ex, kC_rt, kC_nx, kC_ex,
  go_ret, go_some, go_bind, go_add, go_sub, go_mul, go_mod, go_div, go_pow, go_shl, go_lt, go_le, go_gt, go_ge, go_eq, go_eqS, go_ne, go_neS, go_eqB, go_eqT0, go_bl, go_tru, go_ixT, go_ixL, go_ixR, go_lenT, go_lenL, go_lenR, go_listT, go_max2, go_min2, go_if, gos_ifB, ifB_t, ifB_f,
  atI0, atI1, atI2, M.opt_some, Option.map_some, Bool.not_true, Bool.not_false, mSlice, mPart0, mRev, go_part, go_neg, go_slT, go_revT, go_rng1, asg, exists_eq_left', Option.some.injEq, D.int.injEq, List.cons.injEq, and_true, true_and]
      exact q d st' t (pn.mono (by omega))
    · have e : ¬ ((l : Int) = 0) := by omega
      simp only [gos_nil, evS, ev, evs, mArgs, mAnds, mOrs, tAnds, tOrs, Sm.of, Sm.bl, Sm.it, mVar, mCon, conD, mCall, mPrim, mBin, mChain, mAndV, mOrV, mAndT, mOrT, mNotV, mNotT, mIf, mNil, mCons, mTup, mLst, mDic, mYes,
  List.map_cons, List.map_nil, List.cons_append, List.nil_append, List.replicate, List.length_cons, List.length_nil, List.getElem?_cons_zero, List.getElem?_cons_succ, Option.join_some, List.set_cons_zero, List.set_cons_succ, Nat.reduceAdd, Nat.reduceSub, Nat.zero_add, Nat.add_zero,
  gos_seq, gos_next, gos_brk, gos_ct, gos_retN, gos_if, gos_asg, gos_ret, gos_drop, gos_par, gos_for, gos_setIx, kR_ok, kS_ok, kQ_nx, kQ_rt, kQ_bk, kQ_ct, kQ_ex, kC_rt, kC_nx, kC_ex,
  go_ret, go_some, go_bind, go_add, go_sub, go_mul, go_mod, go_div, go_pow, go_shl, go_lt, go_le, go_gt, go_ge, go_eq, go_eqS, go_ne, go_neS, go_eqB, go_eqT0, go_bl, go_tru, go_ixT, go_ixL, go_ixR, go_lenT, go_lenL, go_lenR, go_listT, go_max2, go_min2, go_if, gos_ifB, ifB_t, ifB_f,
  atI0, atI1, atI2, M.opt_some, Option.map_some, Bool.not_true, Bool.not_false, mSlice, mPart0, mRev, go_part, go_neg, go_slT, go_revT, go_rng1, asg, exists_eq_left', Option.some.injEq, D.int.injEq, List.cons.injEq, and_true, true_and, e, decide_false]
      refine draw (n := n + l + 1) h (by omega) (by omega) (by omega) fun r1 st1 a1 b1 h1 => ?_
      simp only [gos_nil, evS, ev, evs, mArgs, mAnds, mOrs, tAnds, tOrs, Sm.of, Sm.bl, Sm.it, mVar, mCon, conD, mCall, mPrim, mBin, mChain, mAndV, mOrV, mAndT, mOrT, mNotV, mNotT, mIf, mNil, mCons, mTup, mLst, mDic, mYes,
  List.map_cons, List.map_nil, List.cons_append, List.nil_append, List.replicate, List.length_cons, List.length_nil, List.getElem?_cons_zero, List.getElem?_cons_succ, Option.join_some, List.set_cons_zero, List.set_cons_succ, Nat.reduceAdd, Nat.reduceSub, Nat.zero_add, Nat.add_zero,
  gos_seq, gos_next, gos_brk, gos_ct, gos_retN, gos_if, gos_asg, gos_ret, gos_drop, gos_par, gos_for, gos_setIx, kR_ok, kS_ok, kQ_nx, kQ_rt, kQ_bk, kQ_ct, kQ_ex, kC_rt, kC_nx, kC_ex,
  go_ret, go_some, go_bind, go_add, go_sub, go_mul, go_mod, go_div, go_pow, go_shl, go_lt, go_le, go_gt, go_ge, go_eq, go_eqS, go_ne, go_neS, go_eqB, go_eqT0, go_bl, go_tru, go_ixT, go_ixL, go_ixR, go_lenT, go_lenL, go_lenR, go_listT, go_max2, go_min2, go_if, gos_ifB, ifB_t, ifB_f,
  atI0, atI1, atI2, M.opt_some, Option.map_some, Bool.not_true, Bool.not_false, mSlice, mPart0, mRev, go_part, go_neg, go_slT, go_revT, go_rng1, asg, exists_eq_left', Option.some.injEq, D.int.injEq, List.cons.injEq, and_true, true_and]
      by_cases z1 : r1 = 0
      · simp only [gos_nil, evS, ev, evs, mArgs, mAnds, mOrs, tAnds, tOrs, Sm.of, Sm.bl, Sm.it, mVar, mCon, conD, mCall, mPrim, mBin, mChain, mAndV, mOrV, mAndT, mOrT, mNotV, mNotT, mIf, mNil, mCons, mTup, mLst, mDic, mYes,
  List.map_cons, List.map_nil, List.cons_append, List.nil_append, List.replicate, List.length_cons, List.length_nil, List.getElem?_cons_zero, List.getElem?_cons_succ, Option.join_some, List.set_cons_zero, List.set_cons_succ, Nat.reduceAdd, Nat.reduceSub, Nat.zero_add, Nat.add_zero,
  gos_seq, gos_next, gos_brk, gos_ct, gos_retN, gos_if, gos_asg, gos_ret, gos_drop, gos_par, gos_for, gos_setIx, kR_ok, kS_ok, kQ_nx, kQ_rt, kQ_bk, kQ_ct, kQ_ex, kC_rt, kC_nx, kC_ex,
  go_ret, go_some, go_bind, go_add, go_sub, go_mul, go_mod, go_div, go_pow, go_shl, go_lt, go_le, go_gt, go_ge, go_eq, go_eqS, go_ne, go_neS, go_eqB, go_eqT0, go_bl, go_tru, go_ixT, go_ixL, go_ixR, go_lenT, go_lenL, go_lenR, go_listT, go_max2, go_min2, go_if, gos_ifB, ifB_t, ifB_f,
  atI0, atI1, atI2, M.opt_some, Option.map_some, Bool.not_true, Bool.not_false, mSlice, mPart0, mRev, go_part, go_neg, go_slT, go_revT, go_rng1, asg, exists_eq_left', Option.some.injEq, D.int.injEq, List.cons.injEq, and_true, true_and, z1, decide_true]
        (rw [gos_cons]; simp only [gos_nil, evS, ev, evs, mArgs, mAnds, mOrs, tAnds, tOrs, Sm.of, Sm.bl, Sm.it, mVar, mCon, conD, mCall, mPrim, mBin, mChain, mAndV, mOrV, mAndT, mOrT, mNotV, mNotT, mIf, mNil, mCons, mTup, mLst, mDic, mYes,
  List.map_cons, List.map_nil, List.cons_append, List.nil_append, List.replicate, List.length_cons, List.length_nil, List.getElem?_cons_zero, List.getElem?_cons_succ, Option.join_some, List.set_cons_zero, List.set_cons_succ, Nat.reduceAdd, Nat.reduceSub, Nat.zero_add, Nat.add_zero,
  gos_seq, gos_next, gos_brk, gos_ct, gos_retN, gos_if, gos_asg, gos_ret, gos_drop, gos_par, gos_for, gos_setIx, kR_ok, kS_ok, kQ_nx, kQ_rt, kQ_bk, kQ_ct, kQ_ex, kC_rt, kC_nx, kC_ex,
  go_ret, go_some, go_bind, go_add, go_sub, go_mul, go_mod, go_div, go_pow, go_shl, go_lt, go_le, go_gt, go_ge, go_eq, go_eqS, go_ne, go_neS, go_eqB, go_eqT0, go_bl, go_tru, go_ixT, go_ixL, go_ixR, go_lenT, go_lenL, go_lenR, go_listT, go_max2, go_min2, go_if, gos_ifB, ifB_t, ifB_f,
  atI0, atI1, atI2, M.opt_some, Option.map_some, Bool.not_true, Bool.not_false, mSlice, mPart0, mRev, go_part, go_neg, go_slT, go_revT, go_rng1, asg, exists_eq_left', Option.some.injEq, D.int.injEq, List.cons.injEq, and_true, true_and, cell0])
        refine leaf (n := n + l) h1 (by omega) fun d st' t pn => ?_
        simp only [gos_nil, evS, ev, evs, mArgs, mAnds, mOrs, tAnds, tOrs, Sm.of, Sm.bl, Sm.it, mVar, mCon, conD, mCall, mPrim, mBin, mChain, mAndV, mOrV, mAndT, mOrT, mNotV, mNotT, mIf, mNil, mCons, mTup, mLst, mDic, mYes,
  List.map_cons, List.map_nil, List.cons_append, List.nil_append, List.replicate, List.length_cons, List.length_nil, List.getElem?_cons_zero, List.getElem?_cons_succ, Option.join_some, List.set_cons_zero, List.set_cons_succ, Nat.reduceAdd, Nat.reduceSub, Nat.zero_add, Nat.add_zero,
  gos_seq, gos_next, gos_brk, gos_ct, gos_retN, gos_if, gos_asg, gos_ret, gos_drop, gos_par, gos_for, gos_setIx, kR_ok, kS_ok, kQ_nx, kQ_rt, kQ_bk, kQ_ct, kQ_ex, kC_rt, kC_nx, kC_ex,
  go_ret, go_some, go_bind, go_add, go_sub, go_mul, go_mod, go_div, go_pow, go_shl, go_lt, go_le, go_gt, go_ge, go_eq, go_eqS, go_ne, go_neS, go_eqB, go_eqT0, go_bl, go_tru, go_ixT, go_ixL, go_ixR, go_lenT, go_lenL, go_lenR, go_listT, go_max2, go_min2, go_if, gos_ifB, ifB_t, ifB_f,
  atI0, atI1, atI2, M.opt_some, Option.map_some, Bool.not_true, Bool.not_false, mSlice, mPart0, mRev, go_part, go_neg, go_slT, go_revT, go_rng1, asg, exists_eq_left', Option.some.injEq, D.int.injEq, List.cons.injEq, and_true, true_and]
        exact q d st' (t.mono (Nat.le_refl _) (by omega) (by omega)) (pn.mono (by omega))
      · simp only [gos_nil, evS, ev, evs, mArgs, mAnds, mOrs, tAnds, tOrs, Sm.of, Sm.bl, Sm.it, mVar, mCon, conD, mCall, mPrim, mBin, mChain, mAndV, mOrV, mAndT, mOrT, mNotV, mNotT, mIf, mNil, mCons, mTup, mLst, mDic, mYes,
  List.map_cons, List.map_nil, List.cons_append, List.nil_append, List.replicate, List.length_cons, List.length_nil, List.getElem?_cons_zero, List.getElem?_cons_succ, Option.join_some, List.set_cons_zero, List.set_cons_succ, Nat.reduceAdd, Nat.reduceSub, Nat.zero_add, Nat.add_zero,
  gos_seq, gos_next, gos_brk, gos_ct, gos_retN, gos_if, gos_asg, gos_ret, gos_drop, gos_par, gos_for, gos_setIx, kR_ok, kS_ok, kQ_nx, kQ_rt, kQ_bk, kQ_ct, kQ_ex, kC_rt, kC_nx, kC_ex,
  go_ret, go_some, go_bind, go_add, go_sub, go_mul, go_mod, go_div, go_pow, go_shl, go_lt, go_le, go_gt, go_ge, go_eq, go_eqS, go_ne, go_neS, go_eqB, go_eqT0, go_bl, go_tru, go_ixT, go_ixL, go_ixR, go_lenT, go_lenL, go_lenR, go_listT, go_max2, go_min2, go_if, gos_ifB, ifB_t, ifB_f,
  atI0, atI1, atI2, M.opt_some, Option.map_some, Bool.not_true, Bool.not_false, mSlice, mPart0, mRev, go_part, go_neg, go_slT, go_revT, go_rng1, asg, exists_eq_left', Option.some.injEq, D.int.injEq, List.cons.injEq, and_true, true_and, z1, decide_false]
        (rw [gos_cons]; simp only [gos_nil, evS, ev, evs, mArgs, mAnds, mOrs, tAnds, tOrs, Sm.of, Sm.bl, Sm.it, mVar, mCon, conD, mCall, mPrim, mBin, mChain, mAndV, mOrV, mAndT, mOrT, mNotV, mNotT, mIf, mNil, mCons, mTup, mLst, mDic, mYes,
  List.map_cons, List.map_nil, List.cons_append, List.nil_append, List.replicate, List.length_cons, List.length_nil, List.getElem?_cons_zero, List.getElem?_cons_succ, Option.join_some, List.set_cons_zero, List.set_cons_succ, Nat.reduceAdd, Nat.reduceSub, Nat.zero_add, Nat.add_zero,
  gos_seq, gos_next, gos_brk, gos_ct, gos_retN, gos_if, gos_asg, gos_ret, gos_drop, gos_par, gos_for, gos_setIx, kR_ok, kS_ok, kQ_nx, kQ_rt, kQ_bk, kQ_ct, kQ_ex, kC_rt, kC_nx, kC_ex,
  go_ret, go_some, go_bind, go_add, go_sub, go_mul, go_mod, go_div, go_pow, go_shl, go_lt, go_le, go_gt, go_ge, go_eq, go_eqS, go_ne, go_neS, go_eqB, go_eqT0, go_bl, go_tru, go_ixT, go_ixL, go_ixR, go_lenT, go_lenL, go_lenR, go_listT, go_max2, go_min2, go_if, gos_ifB, ifB_t, ifB_f,
  atI0, atI1, atI2, M.opt_some, Option.map_some, Bool.not_true, Bool.not_false, mSlice, mPart0, mRev, go_part, go_neg, go_slT, go_revT, go_rng1, asg, exists_eq_left', Option.some.injEq, D.int.injEq, List.cons.injEq, and_true, true_and, cell0])
        refine draw (n := n + l + 1) h1 (by omega) (by omega) (by omega) fun r2 st2 a2 b2 h2 => ?_
        simp only [gos_nil, evS, ev, evs, mArgs, mAnds, mOrs, tAnds, tOrs, Sm.of, Sm.bl, Sm.it, mVar, mCon, conD, mCall, mPrim, mBin, mChain, mAndV, mOrV, mAndT, mOrT, mNotV, mNotT, mIf, mNil, mCons, mTup, mLst, mDic, mYes,
  List.map_cons, List.map_nil, List.cons_append, List.nil_append, List.replicate, List.length_cons, List.length_nil, List.getElem?_cons_zero, List.getElem?_cons_succ, Option.join_some, List.set_cons_zero, List.set_cons_succ, Nat.reduceAdd, Nat.reduceSub, Nat.zero_add, Nat.add_zero,
  gos_seq, gos_next, gos_brk, gos_ct, gos_retN, gos_if, gos_asg, gos_ret, gos_drop, gos_par, gos_for, gos_setIx, kR_ok, kS_ok, kQ_nx, kQ_rt, kQ_bk, kQ_ct, kQ_ex, kC_rt, kC_nx, kC_ex,
  go_ret, go_some, go_bind, go_add, go_sub, go_mul, go_mod, go_div, go_pow, go_shl, go_lt, go_le, go_gt, go_ge, go_eq, go_eqS, go_ne, go_neS, go_eqB, go_eqT0, go_bl, go_tru, go_ixT, go_ixL, go_ixR, go_lenT, go_lenL, go_lenR, go_listT, go_max2, go_min2, go_if, gos_ifB, ifB_t, ifB_f,
  atI0, atI1, atI2, M.opt_some, Option.map_some, Bool.not_true, Bool.not_false, mSlice, mPart0, mRev, go_part, go_neg, go_slT, go_revT, go_rng1, asg, exists_eq_left', Option.some.injEq, D.int.injEq, List.cons.injEq, and_true, true_and]
        have hL : 2 ≤ LIM := by decide
        have hL3 : 3 ≤ LIM := by decide
        have hL8 : 8 ≤ LIM := by decide
        by_cases z2 : r2 = 0
        · simp only [gos_nil, evS, ev, evs, mArgs, mAnds, mOrs, tAnds, tOrs, Sm.of, Sm.bl, Sm.it, mVar, mCon, conD, mCall, mPrim, mBin, mChain, mAndV, mOrV, mAndT, mOrT, mNotV, mNotT, mIf, mNil, mCons, mTup, mLst, mDic, mYes,
  List.map_cons, List.map_nil, List.cons_append, List.nil_append, List.replicate, List.length_cons, List.length_nil, List.getElem?_cons_zero, List.getElem?_cons_succ, Option.join_some, List.set_cons_zero, List.set_cons_succ, Nat.reduceAdd, Nat.reduceSub, Nat.zero_add, Nat.add_zero,
  gos_seq, gos_next, gos_brk, gos_ct, gos_retN, gos_if, gos_asg, gos_ret, gos_drop, gos_par, gos_for, gos_setIx, kR_ok, kS_ok, kQ_nx, kQ_rt, kQ_bk, kQ_ct, kQ_ex, kC_rt, kC_nx, kC_ex,
  go_ret, go_some, go_bind, go_add, go_sub, go_mul, go_mod, go_div, go_pow, go_shl, go_lt, go_le, go_gt, go_ge, go_eq, go_eqS, go_ne, go_neS, go_eqB, go_eqT0, go_bl, go_tru, go_ixT, go_ixL, go_ixR, go_lenT, go_lenL, go_lenR, go_listT, go_max2, go_min2, go_if, gos_ifB, ifB_t, ifB_f,
  atI0, atI1, atI2, M.opt_some, Option.map_some, Bool.not_true, Bool.not_false, mSlice, mPart0, mRev, go_part, go_neg, go_slT, go_revT, go_rng1, asg, exists_eq_left', Option.some.injEq, D.int.injEq, List.cons.injEq, and_true, true_and, z2, decide_true]
          (rw [gos_cons]; simp only [gos_nil, evS, ev, evs, mArgs, mAnds, mOrs, tAnds, tOrs, Sm.of, Sm.bl, Sm.it, mVar, mCon, conD, mCall, mPrim, mBin, mChain, mAndV, mOrV, mAndT, mOrT, mNotV, mNotT, mIf, mNil, mCons, mTup, mLst, mDic, mYes,
  List.map_cons, List.map_nil, List.cons_append, List.nil_append, List.replicate, List.length_cons, List.length_nil, List.getElem?_cons_zero, List.getElem?_cons_succ, Option.join_some, List.set_cons_zero, List.set_cons_succ, Nat.reduceAdd, Nat.reduceSub, Nat.zero_add, Nat.add_zero,
  gos_seq, gos_next, gos_brk, gos_ct, gos_retN, gos_if, gos_asg, gos_ret, gos_drop, gos_par, gos_for, gos_setIx, kR_ok, kS_ok, kQ_nx, kQ_rt, kQ_bk, kQ_ct, kQ_ex, kC_rt, kC_nx, kC_ex,
  go_ret, go_some, go_bind, go_add, go_sub, go_mul, go_mod, go_div, go_pow, go_shl, go_lt, go_le, go_gt, go_ge, go_eq, go_eqS, go_ne, go_neS, go_eqB, go_eqT0, go_bl, go_tru, go_ixT, go_ixL, go_ixR, go_lenT, go_lenL, go_lenR, go_listT, go_max2, go_min2, go_if, gos_ifB, ifB_t, ifB_f,
  atI0, atI1, atI2, M.opt_some, Option.map_some, Bool.not_true, Bool.not_false, mSlice, mPart0, mRev, go_part, go_neg, go_slT, go_revT, go_rng1, asg, exists_eq_left', Option.some.injEq, D.int.injEq, List.cons.injEq, and_true, true_and, cell0])
          have e1 : ((l : Int) - 1) = ((l - 1 : Nat) : Int) := by omega
          rw [e1]
          have e2 : n + l + 2 = n + (l - 1) + 3 := by omega
          rw [e2]
          refine ih (l - 1) (by omega) n p _ st2 _ h2 (by omega) fun d st3 t h3 => ?_
          simp only [gos_nil, evS, ev, evs, mArgs, mAnds, mOrs, tAnds, tOrs, Sm.of, Sm.bl, Sm.it, mVar, mCon, conD, mCall, mPrim, mBin, mChain, mAndV, mOrV, mAndT, mOrT, mNotV, mNotT, mIf, mNil, mCons, mTup, mLst, mDic, mYes,
  List.map_cons, List.map_nil, List.cons_append, List.nil_append, List.replicate, List.length_cons, List.length_nil, List.getElem?_cons_zero, List.getElem?_cons_succ, Option.join_some, List.set_cons_zero, List.set_cons_succ, Nat.reduceAdd, Nat.reduceSub, Nat.zero_add, Nat.add_zero,
  gos_seq, gos_next, gos_brk, gos_ct, gos_retN, gos_if, gos_asg, gos_ret, gos_drop, gos_par, gos_for, gos_setIx, kR_ok, kS_ok, kQ_nx, kQ_rt, kQ_bk, kQ_ct, kQ_ex, kC_rt, kC_nx, kC_ex,
  go_ret, go_some, go_bind, go_add, go_sub, go_mul, go_mod, go_div, go_pow, go_shl, go_lt, go_le, go_gt, go_ge, go_eq, go_eqS, go_ne, go_neS, go_eqB, go_eqT0, go_bl, go_tru, go_ixT, go_ixL, go_ixR, go_lenT, go_lenL, go_lenR, go_listT, go_max2, go_min2, go_if, gos_ifB, ifB_t, ifB_f,
  atI0, atI1, atI2, M.opt_some, Option.map_some, Bool.not_true, Bool.not_false, mSlice, mPart0, mRev, go_part, go_neg, go_slT, go_revT, go_rng1, asg, exists_eq_left', Option.some.injEq, D.int.injEq, List.cons.injEq, and_true, true_and, hL, if_true]
          refine q _ _ ((th_t2 (th_str (by decide +kernel)) t).mono (Nat.le_refl _) (by omega) (by omega)) (h3.mono (by omega))
        · simp only [gos_nil, evS, ev, evs, mArgs, mAnds, mOrs, tAnds, tOrs, Sm.of, Sm.bl, Sm.it, mVar, mCon, conD, mCall, mPrim, mBin, mChain, mAndV, mOrV, mAndT, mOrT, mNotV, mNotT, mIf, mNil, mCons, mTup, mLst, mDic, mYes,
  List.map_cons, List.map_nil, List.cons_append, List.nil_append, List.replicate, List.length_cons, List.length_nil, List.getElem?_cons_zero, List.getElem?_cons_succ, Option.join_some, List.set_cons_zero, List.set_cons_succ, Nat.reduceAdd, Nat.reduceSub, Nat.zero_add, Nat.add_zero,
  gos_seq, gos_next, gos_brk, gos_ct, gos_retN, gos_if, gos_asg, gos_ret, gos_drop, gos_par, gos_for, gos_setIx, kR_ok, kS_ok, kQ_nx, kQ_rt, kQ_bk, kQ_ct, kQ_ex, kC_rt, kC_nx, kC_ex,
  go_ret, go_some, go_bind, go_add, go_sub, go_mul, go_mod, go_div, go_pow, go_shl, go_lt, go_le, go_gt, go_ge, go_eq, go_eqS, go_ne, go_neS, go_eqB, go_eqT0, go_bl, go_tru, go_ixT, go_ixL, go_ixR, go_lenT, go_lenL, go_lenR, go_listT, go_max2, go_min2, go_if, gos_ifB, ifB_t, ifB_f,
  atI0, atI1, atI2, M.opt_some, Option.map_some, Bool.not_true, Bool.not_false, mSlice, mPart0, mRev, go_part, go_neg, go_slT, go_revT, go_rng1, asg, exists_eq_left', Option.some.injEq, D.int.injEq, List.cons.injEq, and_true, true_and, z2, decide_false]
          (rw [gos_cons]; simp only [gos_nil, evS, ev, evs, mArgs, mAnds, mOrs, tAnds, tOrs, Sm.of, Sm.bl, Sm.it, mVar, mCon, conD, mCall, mPrim, mBin, mChain, mAndV, mOrV, mAndT, mOrT, mNotV, mNotT, mIf, mNil, mCons, mTup, mLst, mDic, mYes,
  List.map_cons, List.map_nil, List.cons_append, List.nil_append, List.replicate, List.length_cons, List.length_nil, List.getElem?_cons_zero, List.getElem?_cons_succ, Option.join_some, List.set_cons_zero, List.set_cons_succ, Nat.reduceAdd, Nat.reduceSub, Nat.zero_add, Nat.add_zero,
  gos_seq, gos_next, gos_brk, gos_ct, gos_retN, gos_if, gos_asg, gos_ret, gos_drop, gos_par, gos_for, gos_setIx, kR_ok, kS_ok, kQ_nx, kQ_rt, kQ_bk, kQ_ct, kQ_ex, kC_rt, kC_nx, kC_ex,
  go_ret, go_some, go_bind, go_add, go_sub, go_mul, go_mod, go_div, go_pow, go_shl, go_lt, go_le, go_gt, go_ge, go_eq, go_eqS, go_ne, go_neS, go_eqB, go_eqT0, go_bl, go_tru, go_ixT, go_ixL, go_ixR, go_lenT, go_lenL, go_lenR, go_listT, go_max2, go_min2, go_if, gos_ifB, ifB_t, ifB_f,
  atI0, atI1, atI2, M.opt_some, Option.map_some, Bool.not_true, Bool.not_false, mSlice, mPart0, mRev, go_part, go_neg, go_slT, go_revT, go_rng1, asg, exists_eq_left', Option.some.injEq, D.int.injEq, List.cons.injEq, and_true, true_and, cell0])
          refine draw (n := n + l + 1) h2 (by omega) (by omega) (by omega) fun r3 st3 a3 b3 h3 => ?_
          simp only [gos_nil, evS, ev, evs, mArgs, mAnds, mOrs, tAnds, tOrs, Sm.of, Sm.bl, Sm.it, mVar, mCon, conD, mCall, mPrim, mBin, mChain, mAndV, mOrV, mAndT, mOrT, mNotV, mNotT, mIf, mNil, mCons, mTup, mLst, mDic, mYes,
  List.map_cons, List.map_nil, List.cons_append, List.nil_append, List.replicate, List.length_cons, List.length_nil, List.getElem?_cons_zero, List.getElem?_cons_succ, Option.join_some, List.set_cons_zero, List.set_cons_succ, Nat.reduceAdd, Nat.reduceSub, Nat.zero_add, Nat.add_zero,
  gos_seq, gos_next, gos_brk, gos_ct, gos_retN, gos_if, gos_asg, gos_ret, gos_drop, gos_par, gos_for, gos_setIx, kR_ok, kS_ok, kQ_nx, kQ_rt, kQ_bk, kQ_ct, kQ_ex, kC_rt, kC_nx, kC_ex,
  go_ret, go_some, go_bind, go_add, go_sub, go_mul, go_mod, go_div, go_pow, go_shl, go_lt, go_le, go_gt, go_ge, go_eq, go_eqS, go_ne, go_neS, go_eqB, go_eqT0, go_bl, go_tru, go_ixT, go_ixL, go_ixR, go_lenT, go_lenL, go_lenR, go_listT, go_max2, go_min2, go_if, gos_ifB, ifB_t, ifB_f,
  atI0, atI1, atI2, M.opt_some, Option.map_some, Bool.not_true, Bool.not_false, mSlice, mPart0, mRev, go_part, go_neg, go_slT, go_revT, go_rng1, asg, exists_eq_left', Option.some.injEq, D.int.injEq, List.cons.injEq, and_true, true_and]
          (rw [gos_cons]; simp only [gos_nil, evS, ev, evs, mArgs, mAnds, mOrs, tAnds, tOrs, Sm.of, Sm.bl, Sm.it, mVar, mCon, conD, mCall, mPrim, mBin, mChain, mAndV, mOrV, mAndT, mOrT, mNotV, mNotT, mIf, mNil, mCons, mTup, mLst, mDic, mYes,
  List.map_cons, List.map_nil, List.cons_append, List.nil_append, List.replicate, List.length_cons, List.length_nil, List.getElem?_cons_zero, List.getElem?_cons_succ, Option.join_some, List.set_cons_zero, List.set_cons_succ, Nat.reduceAdd, Nat.reduceSub, Nat.zero_add, Nat.add_zero,
  gos_seq, gos_next, gos_brk, gos_ct, gos_retN, gos_if, gos_asg, gos_ret, gos_drop, gos_par, gos_for, gos_setIx, kR_ok, kS_ok, kQ_nx, kQ_rt, kQ_bk, kQ_ct, kQ_ex, kC_rt, kC_nx, kC_ex,
  go_ret, go_some, go_bind, go_add, go_sub, go_mul, go_mod, go_div, go_pow, go_shl, go_lt, go_le, go_gt, go_ge, go_eq, go_eqS, go_ne, go_neS, go_eqB, go_eqT0, go_bl, go_tru, go_ixT, go_ixL, go_ixR, go_lenT, go_lenL, go_lenR, go_listT, go_max2, go_min2, go_if, gos_ifB, ifB_t, ifB_f,
  atI0, atI1, atI2, M.opt_some, Option.map_some, Bool.not_true, Bool.not_false, mSlice, mPart0, mRev, go_part, go_neg, go_slT, go_revT, go_rng1, asg, exists_eq_left', Option.some.injEq, D.int.injEq, List.cons.injEq, and_true, true_and, cell0, hL8, if_true])
          refine pick (n := n + l) h3 (by omega) (by simp) (by simp) fun w st4 hw h4 => ?_
          obtain ⟨w, rfl, hv⟩ := word_str hw
          simp only [gos_nil, evS, ev, evs, mArgs, mAnds, mOrs, tAnds, tOrs, Sm.of, Sm.bl, Sm.it, mVar, mCon, conD, mCall, mPrim, mBin, mChain, mAndV, mOrV, mAndT, mOrT, mNotV, mNotT, mIf, mNil, mCons, mTup, mLst, mDic, mYes,
  List.map_cons, List.map_nil, List.cons_append, List.nil_append, List.replicate, List.length_cons, List.length_nil, List.getElem?_cons_zero, List.getElem?_cons_succ, Option.join_some, List.set_cons_zero, List.set_cons_succ, Nat.reduceAdd, Nat.reduceSub, Nat.zero_add, Nat.add_zero,
  gos_seq, gos_next, gos_brk, gos_ct, gos_retN, gos_if, gos_asg, gos_ret, gos_drop, gos_par, gos_for, gos_setIx, kR_ok, kS_ok, kQ_nx, kQ_rt, kQ_bk, kQ_ct, kQ_ex, kC_rt, kC_nx, kC_ex,
  go_ret, go_some, go_bind, go_add, go_sub, go_mul, go_mod, go_div, go_pow, go_shl, go_lt, go_le, go_gt, go_ge, go_eq, go_eqS, go_ne, go_neS, go_eqB, go_eqT0, go_bl, go_tru, go_ixT, go_ixL, go_ixR, go_lenT, go_lenL, go_lenR, go_listT, go_max2, go_min2, go_if, gos_ifB, ifB_t, ifB_f,
  atI0, atI1, atI2, M.opt_some, Option.map_some, Bool.not_true, Bool.not_false, mSlice, mPart0, mRev, go_part, go_neg, go_slT, go_revT, go_rng1, asg, exists_eq_left', Option.some.injEq, D.int.injEq, List.cons.injEq, and_true, true_and]
          (rw [gos_cons]; simp only [gos_nil, evS, ev, evs, mArgs, mAnds, mOrs, tAnds, tOrs, Sm.of, Sm.bl, Sm.it, mVar, mCon, conD, mCall, mPrim, mBin, mChain, mAndV, mOrV, mAndT, mOrT, mNotV, mNotT, mIf, mNil, mCons, mTup, mLst, mDic, mYes,
  List.map_cons, List.map_nil, List.cons_append, List.nil_append, List.replicate, List.length_cons, List.length_nil, List.getElem?_cons_zero, List.getElem?_cons_succ, Option.join_some, List.set_cons_zero, List.set_cons_succ, Nat.reduceAdd, Nat.reduceSub, Nat.zero_add, Nat.add_zero,
  gos_seq, gos_next, gos_brk, gos_ct, gos_retN, gos_if, gos_asg, gos_ret, gos_drop, gos_par, gos_for, gos_setIx, kR_ok, kS_ok, kQ_nx, kQ_rt, kQ_bk, kQ_ct, kQ_ex, kC_rt, kC_nx, kC_ex,
  go_ret, go_some, go_bind, go_add, go_sub, go_mul, go_mod, go_div, go_pow, go_shl, go_lt, go_le, go_gt, go_ge, go_eq, go_eqS, go_ne, go_neS, go_eqB, go_eqT0, go_bl, go_tru, go_ixT, go_ixL, go_ixR, go_lenT, go_lenL, go_lenR, go_listT, go_max2, go_min2, go_if, gos_ifB, ifB_t, ifB_f,
  atI0, atI1, atI2, M.opt_some, Option.map_some, Bool.not_true, Bool.not_false, mSlice, mPart0, mRev, go_part, go_neg, go_slT, go_revT, go_rng1, asg, exists_eq_left', Option.some.injEq, D.int.injEq, List.cons.injEq, and_true, true_and, cell0])
          obtain ⟨k, rfl⟩ := Int.eq_ofNat_of_zero_le a3
          have hk : k < l := by omega
          have e2 : n + l + 2 = (n + (l - 1 - k)) + k + 3 := by omega
          have e3 : n + l + 2 = (n + k) + (l - 1 - k) + 3 := by omega
          rw [e2]
          refine ih k hk (n + (l - 1 - k)) p _ st4 _ h4 (by omega) fun d5 st5 t5 h5 => ?_
          simp only [gos_nil, evS, ev, evs, mArgs, mAnds, mOrs, tAnds, tOrs, Sm.of, Sm.bl, Sm.it, mVar, mCon, conD, mCall, mPrim, mBin, mChain, mAndV, mOrV, mAndT, mOrT, mNotV, mNotT, mIf, mNil, mCons, mTup, mLst, mDic, mYes,
  List.map_cons, List.map_nil, List.cons_append, List.nil_append, List.replicate, List.length_cons, List.length_nil, List.getElem?_cons_zero, List.getElem?_cons_succ, Option.join_some, List.set_cons_zero, List.set_cons_succ, Nat.reduceAdd, Nat.reduceSub, Nat.zero_add, Nat.add_zero,
  gos_seq, gos_next, gos_brk, gos_ct, gos_retN, gos_if, gos_asg, gos_ret, gos_drop, gos_par, gos_for, gos_setIx, kR_ok, kS_ok, kQ_nx, kQ_rt, kQ_bk, kQ_ct, kQ_ex, kC_rt, kC_nx, kC_ex,
  go_ret, go_some, go_bind, go_add, go_sub, go_mul, go_mod, go_div, go_pow, go_shl, go_lt, go_le, go_gt, go_ge, go_eq, go_eqS, go_ne, go_neS, go_eqB, go_eqT0, go_bl, go_tru, go_ixT, go_ixL, go_ixR, go_lenT, go_lenL, go_lenR, go_listT, go_max2, go_min2, go_if, gos_ifB, ifB_t, ifB_f,
  atI0, atI1, atI2, M.opt_some, Option.map_some, Bool.not_true, Bool.not_false, mSlice, mPart0, mRev, go_part, go_neg, go_slT, go_revT, go_rng1, asg, exists_eq_left', Option.some.injEq, D.int.injEq, List.cons.injEq, and_true, true_and]
          rw [← e2]
          (rw [gos_cons]; simp only [gos_nil, evS, ev, evs, mArgs, mAnds, mOrs, tAnds, tOrs, Sm.of, Sm.bl, Sm.it, mVar, mCon, conD, mCall, mPrim, mBin, mChain, mAndV, mOrV, mAndT, mOrT, mNotV, mNotT, mIf, mNil, mCons, mTup, mLst, mDic, mYes,
  List.map_cons, List.map_nil, List.cons_append, List.nil_append, List.replicate, List.length_cons, List.length_nil, List.getElem?_cons_zero, List.getElem?_cons_succ, Option.join_some, List.set_cons_zero, List.set_cons_succ, Nat.reduceAdd, Nat.reduceSub, Nat.zero_add, Nat.add_zero,
  gos_seq, gos_next, gos_brk, gos_ct, gos_retN, gos_if, gos_asg, gos_ret, gos_drop, gos_par, gos_for, gos_setIx, kR_ok, kS_ok, kQ_nx, kQ_rt, kQ_bk, kQ_ct, kQ_ex, kC_rt, kC_nx, kC_ex,
  go_ret, go_some, go_bind, go_add, go_sub, go_mul, go_mod, go_div, go_pow, go_shl, go_lt, go_le, go_gt, go_ge, go_eq, go_eqS, go_ne, go_neS, go_eqB, go_eqT0, go_bl, go_tru, go_ixT, go_ixL, go_ixR, go_lenT, go_lenL, go_lenR, go_listT, go_max2, go_min2, go_if, gos_ifB, ifB_t, ifB_f,
  atI0, atI1, atI2, M.opt_some, Option.map_some, Bool.not_true, Bool.not_false, mSlice, mPart0, mRev, go_part, go_neg, go_slT, go_revT, go_rng1, asg, exists_eq_left', Option.some.injEq, D.int.injEq, List.cons.injEq, and_true, true_and, cell0])
          have e4 : ((l : Int) - 1 - (k : Int)) = ((l - 1 - k : Nat) : Int) := by omega
          rw [e4, e3]
          refine ih (l - 1 - k) (by omega) (n + k) p _ st5 _ h5 (by omega) fun d6 st6 t6 h6 => ?_
          simp only [gos_nil, evS, ev, evs, mArgs, mAnds, mOrs, tAnds, tOrs, Sm.of, Sm.bl, Sm.it, mVar, mCon, conD, mCall, mPrim, mBin, mChain, mAndV, mOrV, mAndT, mOrT, mNotV, mNotT, mIf, mNil, mCons, mTup, mLst, mDic, mYes,
  List.map_cons, List.map_nil, List.cons_append, List.nil_append, List.replicate, List.length_cons, List.length_nil, List.getElem?_cons_zero, List.getElem?_cons_succ, Option.join_some, List.set_cons_zero, List.set_cons_succ, Nat.reduceAdd, Nat.reduceSub, Nat.zero_add, Nat.add_zero,
  gos_seq, gos_next, gos_brk, gos_ct, gos_retN, gos_if, gos_asg, gos_ret, gos_drop, gos_par, gos_for, gos_setIx, kR_ok, kS_ok, kQ_nx, kQ_rt, kQ_bk, kQ_ct, kQ_ex, kC_rt, kC_nx, kC_ex,
  go_ret, go_some, go_bind, go_add, go_sub, go_mul, go_mod, go_div, go_pow, go_shl, go_lt, go_le, go_gt, go_ge, go_eq, go_eqS, go_ne, go_neS, go_eqB, go_eqT0, go_bl, go_tru, go_ixT, go_ixL, go_ixR, go_lenT, go_lenL, go_lenR, go_listT, go_max2, go_min2, go_if, gos_ifB, ifB_t, ifB_f,
  atI0, atI1, atI2, M.opt_some, Option.map_some, Bool.not_true, Bool.not_false, mSlice, mPart0, mRev, go_part, go_neg, go_slT, go_revT, go_rng1, asg, exists_eq_left', Option.some.injEq, D.int.injEq, List.cons.injEq, and_true, true_and, hL3, if_true]
          refine q _ _ ((th_t3 (th_str hv) t5 t6).mono (Nat.le_refl _) (by omega) (by omega)) (h6.mono (by omega))
end
end K30

set_option maxHeartbeats 4000000
namespace K30
open PySem PySem.Spec PyProof.Rows L2 MC
abbrev MB : Nat := 100000000000
theorem th_non {M : Nat} : Th M 1 0 .non := ⟨rfl, by unfold D.wt; omega, by unfold D.dep; omega⟩
theorem th_bl {M : Nat} (b : Bool) : Th M 1 0 (.bl b) := ⟨by unfold D.fine; rfl, by unfold D.wt; omega, by unfold D.dep; omega⟩
theorem th_lst {M w h : Nat} {l : List D} (t : Th M w h (.tup l)) : Th M w h (.lst l) := by
  obtain ⟨a, b, c⟩ := t
  unfold D.fine at a
  unfold D.wt at b
  unfold D.dep at c
  exact ⟨by unfold D.fine; exact a, by unfold D.wt; exact b, by unfold D.dep; exact c⟩
theorem th_t0 {M : Nat} : Th M 1 1 (.tup []) := th_tup rfl (by decide) (by decide)
theorem th_d1 {M : Nat} : Th M 3 1 (.dic [.inr "a"] [.int 0]) := by
  refine ⟨?_, ?_, ?_⟩
  · unfold D.fine D.fineL D.fineL D.fine kfine
    simp only [List.length_singleton, List.all_cons, List.all_nil, Int.natAbs_zero, Nat.zero_le, decide_true, Bool.and_true, Bool.true_and]
    exact decide_eq_true (by decide +kernel)
  · unfold D.wt
    rw [wtL_cons]
    unfold D.wt D.wtL
    simp
  · unfold D.dep
    rw [depL_cons]
    unfold D.dep D.depL
    simp
theorem th_d0 {M : Nat} : Th M 1 1 (.dic [] []) := ⟨rfl, by decide, by decide⟩
def odds : List D := [.non, .bl true, .bl false, .int (-1), .int 100000000000, .str "", .str "a", .str "row", .tup [], .lst [], .dic [] [], .tup [.int 0], .lst [.int 0], .tup [.str "reg", .int 0], .dic [.inr "a"] [.int 0], .int 64]
theorem odds_ok {d : D} (h : d ∈ odds) : Th MB 3 1 d := by
  have s : ∀ x : Str, (reprText x).length ≤ 90 → Th MB 1 0 (.str x) := fun x hx => th_str hx
  unfold odds at h
  simp only [List.mem_cons, List.not_mem_nil, or_false] at h
  rcases h with rfl | rfl | rfl | rfl | rfl | rfl | rfl | rfl | rfl | rfl | rfl | rfl | rfl | rfl | rfl | rfl
  · exact th_non.mono (Nat.le_refl _) (by omega) (by omega)
  · exact (th_bl _).mono (Nat.le_refl _) (by omega) (by omega)
  · exact (th_bl _).mono (Nat.le_refl _) (by omega) (by omega)
  · exact (th_int (by decide)).mono (Nat.le_refl _) (by omega) (by omega)
  · exact (th_int (by decide)).mono (Nat.le_refl _) (by omega) (by omega)
  · exact (th_str (by decide +kernel)).mono (Nat.le_refl _) (by omega) (by omega)
  · exact (th_str (by decide +kernel)).mono (Nat.le_refl _) (by omega) (by omega)
  · exact (th_str (by decide +kernel)).mono (Nat.le_refl _) (by omega) (by omega)
  · exact th_t0.mono (Nat.le_refl _) (by omega) (by omega)
  · exact (th_lst th_t0).mono (Nat.le_refl _) (by omega) (by omega)
  · exact th_d0.mono (Nat.le_refl _) (by omega) (by omega)
  · exact (th_t1 (th_int (by decide))).mono (Nat.le_refl _) (by omega) (by omega)
  · exact (th_lst (th_t1 (th_int (by decide)))).mono (Nat.le_refl _) (by omega) (by omega)
  · exact (th_t2 (th_str (by decide +kernel)) (th_int (by decide))).mono (Nat.le_refl _) (by omega) (by omega)
  · exact th_d1
  · exact (th_int (by decide)).mono (Nat.le_refl _) (by omega) (by omega)
section
variable {st : Sto} {R : Res D → Prop} {n p : Nat} {B : Int}
theorem odd (h : PenAt p B st) (hB : B + 1 ≤ 1000000) (q : ∀ d st', Th MB 3 1 d → PenAt p (B + 1) st' → R (.ok d st')) : Go (cD (n + 2) 14 [.cell p]) st R := by
  rw [cD, go_call (f := f14) rfl rfl]
  show GoS (evSs _ _ b_law_odd) _ _ _
  unfold b_law_odd
  have hL : 1 ≤ LIM := by decide
  have hL2 : 2 ≤ LIM := by decide
  have hL16 : 16 ≤ LIM := by decide
  have hL0 : 0 ≤ LIM := by decide
  (rw [gos_cons]; simp only [gos_nil, evS, ev, evs, mArgs, mAnds, mOrs, tAnds, tOrs, Sm.of, Sm.bl, Sm.it, mVar, mCon, conD, mCall, mPrim, mBin, mChain, mAndV, mOrV, mAndT, mOrT, mNotV, mNotT, mIf, mNil, mCons, mTup, mLst, mDic, mYes,
  List.map_cons, List.map_nil, List.cons_append, List.nil_append, List.replicate, List.length_cons, List.length_nil, List.getElem?_cons_zero, List.getElem?_cons_succ, Option.join_some, List.set_cons_zero, List.set_cons_succ, Nat.reduceAdd, Nat.reduceSub, Nat.zero_add, Nat.add_zero,
  gos_seq, gos_next, gos_brk, gos_ct, gos_retN, gos_if, gos_asg, gos_ret, gos_drop, gos_par, gos_for, gos_setIx, kR_ok, kS_ok, kQ_nx, kQ_rt, kQ_bk, kQ_ct, kQ_ex, kC_rt, kC_nx, kC_ex,
  go_ret, go_some, go_bind, go_add, go_sub, go_mul, go_mod, go_div, go_pow, go_shl, go_lt, go_le, go_gt, go_ge, go_eq, go_eqS, go_ne, go_neS, go_eqB, go_eqT0, go_bl, go_tru, go_ixT, go_ixL, go_ixR, go_lenT, go_lenL, go_lenR, go_listT, go_max2, go_min2, go_if, gos_ifB, ifB_t, ifB_f,
  atI0, atI1, atI2, M.opt_some, Option.map_some, Bool.not_true, Bool.not_false, mSlice, mPart0, mRev, go_part, go_neg, go_slT, go_revT, go_rng1, asg, exists_eq_left', Option.some.injEq, D.int.injEq, List.cons.injEq, and_true, true_and, hL, hL2, hL16, hL0, if_true])
  refine ⟨by decide, ?_⟩
  have e : (10 ^ (11 : Int).toNat : Int) = 100000000000 := by decide
  rw [e]
  (rw [gos_cons]; simp only [gos_nil, evS, ev, evs, mArgs, mAnds, mOrs, tAnds, tOrs, Sm.of, Sm.bl, Sm.it, mVar, mCon, conD, mCall, mPrim, mBin, mChain, mAndV, mOrV, mAndT, mOrT, mNotV, mNotT, mIf, mNil, mCons, mTup, mLst, mDic, mYes,
  List.map_cons, List.map_nil, List.cons_append, List.nil_append, List.replicate, List.length_cons, List.length_nil, List.getElem?_cons_zero, List.getElem?_cons_succ, Option.join_some, List.set_cons_zero, List.set_cons_succ, Nat.reduceAdd, Nat.reduceSub, Nat.zero_add, Nat.add_zero,
  gos_seq, gos_next, gos_brk, gos_ct, gos_retN, gos_if, gos_asg, gos_ret, gos_drop, gos_par, gos_for, gos_setIx, kR_ok, kS_ok, kQ_nx, kQ_rt, kQ_bk, kQ_ct, kQ_ex, kC_rt, kC_nx, kC_ex,
  go_ret, go_some, go_bind, go_add, go_sub, go_mul, go_mod, go_div, go_pow, go_shl, go_lt, go_le, go_gt, go_ge, go_eq, go_eqS, go_ne, go_neS, go_eqB, go_eqT0, go_bl, go_tru, go_ixT, go_ixL, go_ixR, go_lenT, go_lenL, go_lenR, go_listT, go_max2, go_min2, go_if, gos_ifB, ifB_t, ifB_f,
  atI0, atI1, atI2, M.opt_some, Option.map_some, Bool.not_true, Bool.not_false, mSlice, mPart0, mRev, go_part, go_neg, go_slT, go_revT, go_rng1, asg, exists_eq_left', Option.some.injEq, D.int.injEq, List.cons.injEq, and_true, true_and, cell0])
  refine draw h (by omega) (by omega) (by omega) fun r1 st1 a1 b1 h1 => ?_
  simp only [gos_nil, evS, ev, evs, mArgs, mAnds, mOrs, tAnds, tOrs, Sm.of, Sm.bl, Sm.it, mVar, mCon, conD, mCall, mPrim, mBin, mChain, mAndV, mOrV, mAndT, mOrT, mNotV, mNotT, mIf, mNil, mCons, mTup, mLst, mDic, mYes,
  List.map_cons, List.map_nil, List.cons_append, List.nil_append, List.replicate, List.length_cons, List.length_nil, List.getElem?_cons_zero, List.getElem?_cons_succ, Option.join_some, List.set_cons_zero, List.set_cons_succ, Nat.reduceAdd, Nat.reduceSub, Nat.zero_add, Nat.add_zero,
  gos_seq, gos_next, gos_brk, gos_ct, gos_retN, gos_if, gos_asg, gos_ret, gos_drop, gos_par, gos_for, gos_setIx, kR_ok, kS_ok, kQ_nx, kQ_rt, kQ_bk, kQ_ct, kQ_ex, kC_rt, kC_nx, kC_ex,
  go_ret, go_some, go_bind, go_add, go_sub, go_mul, go_mod, go_div, go_pow, go_shl, go_lt, go_le, go_gt, go_ge, go_eq, go_eqS, go_ne, go_neS, go_eqB, go_eqT0, go_bl, go_tru, go_ixT, go_ixL, go_ixR, go_lenT, go_lenL, go_lenR, go_listT, go_max2, go_min2, go_if, gos_ifB, ifB_t, ifB_f,
  atI0, atI1, atI2, M.opt_some, Option.map_some, Bool.not_true, Bool.not_false, mSlice, mPart0, mRev, go_part, go_neg, go_slT, go_revT, go_rng1, asg, exists_eq_left', Option.some.injEq, D.int.injEq, List.cons.injEq, and_true, true_and]
  obtain ⟨d, e1, hd⟩ := atI_mem odds r1 a1 (by show r1 < 16; omega)
  exact ⟨d, e1, q d st1 (odds_ok hd) h1⟩
/-- a long tree -/
theorem long (m : Nat) (h : PenAt p B st) (hm : m ≤ 100) (hB : B + 200 ≤ 1000000) (q : ∀ d st', Th 63 (3 + 5 * m) (2 + m) d → PenAt p (B + 3 + m) st' → R (.ok d st')) : Go (cD (n + 3) 19 [.cell p, .int m]) st R := by
  rw [cD, go_call (f := f19) rfl rfl]
  show GoS (evSs _ _ b_law_long) _ _ _
  unfold b_law_long
  have nn := h.nn
  (rw [gos_cons]; simp only [gos_nil, evS, ev, evs, mArgs, mAnds, mOrs, tAnds, tOrs, Sm.of, Sm.bl, Sm.it, mVar, mCon, conD, mCall, mPrim, mBin, mChain, mAndV, mOrV, mAndT, mOrT, mNotV, mNotT, mIf, mNil, mCons, mTup, mLst, mDic, mYes,
  List.map_cons, List.map_nil, List.cons_append, List.nil_append, List.replicate, List.length_cons, List.length_nil, List.getElem?_cons_zero, List.getElem?_cons_succ, Option.join_some, List.set_cons_zero, List.set_cons_succ, Nat.reduceAdd, Nat.reduceSub, Nat.zero_add, Nat.add_zero,
  gos_seq, gos_next, gos_brk, gos_ct, gos_retN, gos_if, gos_asg, gos_ret, gos_drop, gos_par, gos_for, gos_setIx, kR_ok, kS_ok, kQ_nx, kQ_rt, kQ_bk, kQ_ct, kQ_ex, kC_rt, kC_nx, kC_ex,
  go_ret, go_some, go_bind, go_add, go_sub, go_mul, go_mod, go_div, go_pow, go_shl, go_lt, go_le, go_gt, go_ge, go_eq, go_eqS, go_ne, go_neS, go_eqB, go_eqT0, go_bl, go_tru, go_ixT, go_ixL, go_ixR, go_lenT, go_lenL, go_lenR, go_listT, go_max2, go_min2, go_if, gos_ifB, ifB_t, ifB_f,
  atI0, atI1, atI2, M.opt_some, Option.map_some, Bool.not_true, Bool.not_false, mSlice, mPart0, mRev, go_part, go_neg, go_slT, go_revT, go_rng1, asg, exists_eq_left', Option.some.injEq, D.int.injEq, List.cons.injEq, and_true, true_and, cell0])
  refine leaf h (by omega) fun d0 st0 t0 h0 => ?_
  simp only [gos_nil, evS, ev, evs, mArgs, mAnds, mOrs, tAnds, tOrs, Sm.of, Sm.bl, Sm.it, mVar, mCon, conD, mCall, mPrim, mBin, mChain, mAndV, mOrV, mAndT, mOrT, mNotV, mNotT, mIf, mNil, mCons, mTup, mLst, mDic, mYes,
  List.map_cons, List.map_nil, List.cons_append, List.nil_append, List.replicate, List.length_cons, List.length_nil, List.getElem?_cons_zero, List.getElem?_cons_succ, Option.join_some, List.set_cons_zero, List.set_cons_succ, Nat.reduceAdd, Nat.reduceSub, Nat.zero_add, Nat.add_zero,
  gos_seq, gos_next, gos_brk, gos_ct, gos_retN, gos_if, gos_asg, gos_ret, gos_drop, gos_par, gos_for, gos_setIx, kR_ok, kS_ok, kQ_nx, kQ_rt, kQ_bk, kQ_ct, kQ_ex, kC_rt, kC_nx, kC_ex,
  go_ret, go_some, go_bind, go_add, go_sub, go_mul, go_mod, go_div, go_pow, go_shl, go_lt, go_le, go_gt, go_ge, go_eq, go_eqS, go_ne, go_neS, go_eqB, go_eqT0, go_bl, go_tru, go_ixT, go_ixL, go_ixR, go_lenT, go_lenL, go_lenR, go_listT, go_max2, go_min2, go_if, gos_ifB, ifB_t, ifB_f,
  atI0, atI1, atI2, M.opt_some, Option.map_some, Bool.not_true, Bool.not_false, mSlice, mPart0, mRev, go_part, go_neg, go_slT, go_revT, go_rng1, asg, exists_eq_left', Option.some.injEq, D.int.injEq, List.cons.injEq, and_true, true_and]
  (rw [gos_cons]; simp only [gos_nil, evS, ev, evs, mArgs, mAnds, mOrs, tAnds, tOrs, Sm.of, Sm.bl, Sm.it, mVar, mCon, conD, mCall, mPrim, mBin, mChain, mAndV, mOrV, mAndT, mOrT, mNotV, mNotT, mIf, mNil, mCons, mTup, mLst, mDic, mYes,
  List.map_cons, List.map_nil, List.cons_append, List.nil_append, List.replicate, List.length_cons, List.length_nil, List.getElem?_cons_zero, List.getElem?_cons_succ, Option.join_some, List.set_cons_zero, List.set_cons_succ, Nat.reduceAdd, Nat.reduceSub, Nat.zero_add, Nat.add_zero,
  gos_seq, gos_next, gos_brk, gos_ct, gos_retN, gos_if, gos_asg, gos_ret, gos_drop, gos_par, gos_for, gos_setIx, kR_ok, kS_ok, kQ_nx, kQ_rt, kQ_bk, kQ_ct, kQ_ex, kC_rt, kC_nx, kC_ex,
  go_ret, go_some, go_bind, go_add, go_sub, go_mul, go_mod, go_div, go_pow, go_shl, go_lt, go_le, go_gt, go_ge, go_eq, go_eqS, go_ne, go_neS, go_eqB, go_eqT0, go_bl, go_tru, go_ixT, go_ixL, go_ixR, go_lenT, go_lenL, go_lenR, go_listT, go_max2, go_min2, go_if, gos_ifB, ifB_t, ifB_f,
  atI0, atI1, atI2, M.opt_some, Option.map_some, Bool.not_true, Bool.not_false, mSlice, mPart0, mRev, go_part, go_neg, go_slT, go_revT, go_rng1, asg, exists_eq_left', Option.some.injEq, D.int.injEq, List.cons.injEq, and_true, true_and])
  refine ⟨by omega, ?_⟩
  rw [Int.toNat_natCast]
  have len : (rangeL 0 m).length = m := by unfold rangeL; simp
  refine for_inv (fun ds ρ st => ds.length ≤ m ∧ ∃ d x, ρ = [some (.cell p), some (.int m), some d, x] ∧ Th 63 (3 + 5 * (m - ds.length)) (2 + (m - ds.length)) d ∧ PenAt p (B + 3 + ((m - ds.length : Nat) : Int)) st) _ _ _ ⟨by omega, d0, none, rfl, ?_, ?_⟩ ?_ ?_
  · exact t0.mono (Nat.le_refl _) (by omega) (by omega)
  · rw [len]
    exact h0.mono (by omega)
  · rintro ρ st ⟨_, d, x, rfl, t, hp⟩
    simp only [gos_nil, evS, ev, evs, mArgs, mAnds, mOrs, tAnds, tOrs, Sm.of, Sm.bl, Sm.it, mVar, mCon, conD, mCall, mPrim, mBin, mChain, mAndV, mOrV, mAndT, mOrT, mNotV, mNotT, mIf, mNil, mCons, mTup, mLst, mDic, mYes,
  List.map_cons, List.map_nil, List.cons_append, List.nil_append, List.replicate, List.length_cons, List.length_nil, List.getElem?_cons_zero, List.getElem?_cons_succ, Option.join_some, List.set_cons_zero, List.set_cons_succ, Nat.reduceAdd, Nat.reduceSub, Nat.zero_add, Nat.add_zero,
  gos_seq, gos_next, gos_brk, gos_ct, gos_retN, gos_if, gos_asg, gos_ret, gos_drop, gos_par, gos_for, gos_setIx, kR_ok, kS_ok, kQ_nx, kQ_rt, kQ_bk, kQ_ct, kQ_ex, kC_rt, kC_nx, kC_ex,
  go_ret, go_some, go_bind, go_add, go_sub, go_mul, go_mod, go_div, go_pow, go_shl, go_lt, go_le, go_gt, go_ge, go_eq, go_eqS, go_ne, go_neS, go_eqB, go_eqT0, go_bl, go_tru, go_ixT, go_ixL, go_ixR, go_lenT, go_lenL, go_lenR, go_listT, go_max2, go_min2, go_if, gos_ifB, ifB_t, ifB_f,
  atI0, atI1, atI2, M.opt_some, Option.map_some, Bool.not_true, Bool.not_false, mSlice, mPart0, mRev, go_part, go_neg, go_slT, go_revT, go_rng1, asg, exists_eq_left', Option.some.injEq, D.int.injEq, List.cons.injEq, and_true, true_and]
    (rw [gos_cons]; simp only [gos_nil, evS, ev, evs, mArgs, mAnds, mOrs, tAnds, tOrs, Sm.of, Sm.bl, Sm.it, mVar, mCon, conD, mCall, mPrim, mBin, mChain, mAndV, mOrV, mAndT, mOrT, mNotV, mNotT, mIf, mNil, mCons, mTup, mLst, mDic, mYes,
  List.map_cons, List.map_nil, List.cons_append, List.nil_append, List.replicate, List.length_cons, List.length_nil, List.getElem?_cons_zero, List.getElem?_cons_succ, Option.join_some, List.set_cons_zero, List.set_cons_succ, Nat.reduceAdd, Nat.reduceSub, Nat.zero_add, Nat.add_zero,
  gos_seq, gos_next, gos_brk, gos_ct, gos_retN, gos_if, gos_asg, gos_ret, gos_drop, gos_par, gos_for, gos_setIx, kR_ok, kS_ok, kQ_nx, kQ_rt, kQ_bk, kQ_ct, kQ_ex, kC_rt, kC_nx, kC_ex,
  go_ret, go_some, go_bind, go_add, go_sub, go_mul, go_mod, go_div, go_pow, go_shl, go_lt, go_le, go_gt, go_ge, go_eq, go_eqS, go_ne, go_neS, go_eqB, go_eqT0, go_bl, go_tru, go_ixT, go_ixL, go_ixR, go_lenT, go_lenL, go_lenR, go_listT, go_max2, go_min2, go_if, gos_ifB, ifB_t, ifB_f,
  atI0, atI1, atI2, M.opt_some, Option.map_some, Bool.not_true, Bool.not_false, mSlice, mPart0, mRev, go_part, go_neg, go_slT, go_revT, go_rng1, asg, exists_eq_left', Option.some.injEq, D.int.injEq, List.cons.injEq, and_true, true_and])
    exact q d st t hp
  · rintro y ds ρ st ⟨hl, d, x, rfl, t, hp⟩
    rw [List.length_cons] at hl t hp
    refine ⟨_, rfl, ?_⟩
    have hL2 : 2 ≤ LIM := by decide
    have hL3 : 3 ≤ LIM := by decide
    (rw [gos_cons]; simp only [gos_nil, evS, ev, evs, mArgs, mAnds, mOrs, tAnds, tOrs, Sm.of, Sm.bl, Sm.it, mVar, mCon, conD, mCall, mPrim, mBin, mChain, mAndV, mOrV, mAndT, mOrT, mNotV, mNotT, mIf, mNil, mCons, mTup, mLst, mDic, mYes,
  List.map_cons, List.map_nil, List.cons_append, List.nil_append, List.replicate, List.length_cons, List.length_nil, List.getElem?_cons_zero, List.getElem?_cons_succ, Option.join_some, List.set_cons_zero, List.set_cons_succ, Nat.reduceAdd, Nat.reduceSub, Nat.zero_add, Nat.add_zero,
  gos_seq, gos_next, gos_brk, gos_ct, gos_retN, gos_if, gos_asg, gos_ret, gos_drop, gos_par, gos_for, gos_setIx, kR_ok, kS_ok, kQ_nx, kQ_rt, kQ_bk, kQ_ct, kQ_ex, kC_rt, kC_nx, kC_ex,
  go_ret, go_some, go_bind, go_add, go_sub, go_mul, go_mod, go_div, go_pow, go_shl, go_lt, go_le, go_gt, go_ge, go_eq, go_eqS, go_ne, go_neS, go_eqB, go_eqT0, go_bl, go_tru, go_ixT, go_ixL, go_ixR, go_lenT, go_lenL, go_lenR, go_listT, go_max2, go_min2, go_if, gos_ifB, ifB_t, ifB_f,
  atI0, atI1, atI2, M.opt_some, Option.map_some, Bool.not_true, Bool.not_false, mSlice, mPart0, mRev, go_part, go_neg, go_slT, go_revT, go_rng1, asg, exists_eq_left', Option.some.injEq, D.int.injEq, List.cons.injEq, and_true, true_and, cell0, hL2, hL3, if_true])
    refine pick (n := n) hp (by omega) (by simp) (by simp) fun e st1 he h1 => ?_
    simp only [gos_nil, evS, ev, evs, mArgs, mAnds, mOrs, tAnds, tOrs, Sm.of, Sm.bl, Sm.it, mVar, mCon, conD, mCall, mPrim, mBin, mChain, mAndV, mOrV, mAndT, mOrT, mNotV, mNotT, mIf, mNil, mCons, mTup, mLst, mDic, mYes,
  List.map_cons, List.map_nil, List.cons_append, List.nil_append, List.replicate, List.length_cons, List.length_nil, List.getElem?_cons_zero, List.getElem?_cons_succ, Option.join_some, List.set_cons_zero, List.set_cons_succ, Nat.reduceAdd, Nat.reduceSub, Nat.zero_add, Nat.add_zero,
  gos_seq, gos_next, gos_brk, gos_ct, gos_retN, gos_if, gos_asg, gos_ret, gos_drop, gos_par, gos_for, gos_setIx, kR_ok, kS_ok, kQ_nx, kQ_rt, kQ_bk, kQ_ct, kQ_ex, kC_rt, kC_nx, kC_ex,
  go_ret, go_some, go_bind, go_add, go_sub, go_mul, go_mod, go_div, go_pow, go_shl, go_lt, go_le, go_gt, go_ge, go_eq, go_eqS, go_ne, go_neS, go_eqB, go_eqT0, go_bl, go_tru, go_ixT, go_ixL, go_ixR, go_lenT, go_lenL, go_lenR, go_listT, go_max2, go_min2, go_if, gos_ifB, ifB_t, ifB_f,
  atI0, atI1, atI2, M.opt_some, Option.map_some, Bool.not_true, Bool.not_false, mSlice, mPart0, mRev, go_part, go_neg, go_slT, go_revT, go_rng1, asg, exists_eq_left', Option.some.injEq, D.int.injEq, List.cons.injEq, and_true, true_and]
    refine ⟨by omega, e, _, ⟨rfl, rfl⟩, ?_, h1.mono (by omega)⟩
    simp only [List.mem_cons, List.not_mem_nil, or_false] at he
    rcases he with rfl | rfl | rfl
    · exact (th_t2 (th_str (by decide +kernel)) t).mono (Nat.le_refl _) (by omega) (by omega)
    · exact (th_t3 (th_str (by decide +kernel)) t (th_int (by decide))).mono (Nat.le_refl _) (by omega) (by omega)
    · exact (th_t3 (th_str (by decide +kernel)) (th_t2 (th_str (by decide +kernel)) (th_int (by decide))) t).mono (Nat.le_refl _) (by omega) (by omega)
theorem splits (l : List D) (k : Nat) (hk : k < l.length) (e : D) (he : l[k]? = some e) : D.wtL (l.take k) + D.wtL (l.drop k) = D.wtL l ∧ D.wtL (l.drop k) = e.wt + D.wtL (l.drop (k + 1)) := by
  refine ⟨take_drop_wt l k, ?_⟩
  have : l.drop k = e :: l.drop (k + 1) := by
    rw [List.drop_eq_getElem_cons hk]
    rw [List.getElem?_eq_getElem hk] at he
    cases he
    rfl
  rw [this, wtL_cons]
theorem in_take {l : List D} {k : Nat} : ∀ d ∈ l.take k, d ∈ l := fun d h => List.mem_of_mem_take h
theorem in_drop {l : List D} {k : Nat} : ∀ d ∈ l.drop k, d ∈ l := fun d h => List.mem_of_mem_drop h
theorem whole_int {d : D} (h : wholeB d = true) : ∃ i, d = .int i := by
  cases d <;> first | exact ⟨_, rfl⟩ | cases h
theorem tup_of {d : D} (h : isaB d "tuple" = true) : ∃ l, d = .tup l := by
  cases d <;> first | exact ⟨_, rfl⟩ | (simp [isaB, D.tyN, subT] at h; done)
theorem nat_of {i : Int} (h : 0 ≤ i) : ∃ k : Nat, i = (k : Int) := Int.eq_ofNat_of_zero_le h
theorem bent_rest (k : Nat) (n p : Nat) (B : Int) (st : Sto) (R : Res D → Prop) (Mi w h : Nat) (d : D) (hp : PenAt p B st) (hB : B + 4 * (k + 1) ≤ 1000001) (t : Th Mi w h d) (hM : MB ≤ Mi) (hM2 : Mi + MB < 10 ^ 18) (hw : w ≤ 10000) (q : ∀ d' st', Th (Mi + MB) (2 * w + 6) (h + 2) d' → PenAt p (B + 4 * (k + 1) - 1) st' → R (.ok d' st'))
    (rec : 0 < k → ∀ (B : Int) (st : Sto) (R : Res D → Prop) (w h : Nat) (d : D), PenAt p B st → B + 4 * k ≤ 1000000 → Th Mi w h d → w ≤ 10000 → (∀ d' st', Th (Mi + MB) (2 * w + 6) (h + 2) d' → PenAt p (B + 4 * k) st' → R (.ok d' st')) → Go (cD (n + k + 2) 17 [.cell p, d, .int ((k : Int) - 1)]) st R) :
    GoS (evSs (callD T Γ.gl (n + k + 2)) Γ.gl (b_law_bent.drop 1)) [some (.cell p), some d, some (.int k), none, none] st (kC R) := by
  have nn := hp.nn
  have hs : d.solid = true := (fine_ok (M := Mi) (by omega) d t.fine).1
  have od : ∀ st1 B1, PenAt p B1 st1 → B1 ≤ B → Go (cD (n + k + 2) 14 [.cell p]) st1 R := fun st1 B1 h1 hb => odd (n := n + k) h1 (by omega) fun d' st' t' h' => q d' st' (t'.mono (by omega) (by omega) (by omega)) (h'.mono (by omega))
  show GoS (evSs _ _ [_, _, _, _, _, _, _]) _ _ _
  cases q1 : isaB d "tuple" with
  | false =>
    (rw [gos_cons]; simp only [gos_nil, evS, ev, evs, mArgs, mAnds, mOrs, tAnds, tOrs, Sm.of, Sm.bl, Sm.it, mVar, mCon, conD, mCall, mPrim, mBin, mChain, mAndV, mOrV, mAndT, mOrT, mNotV, mNotT, mIf, mNil, mCons, mTup, mLst, mDic, mYes,
  List.map_cons, List.map_nil, List.cons_append, List.nil_append, List.replicate, List.length_cons, List.length_nil, List.getElem?_cons_zero, List.getElem?_cons_succ, Option.join_some, List.set_cons_zero, List.set_cons_succ, Nat.reduceAdd, Nat.reduceSub, Nat.zero_add, Nat.add_zero,
  gos_seq, gos_next, gos_brk, gos_ct, gos_retN, gos_if, gos_asg, gos_ret, gos_drop, gos_par, gos_for, gos_setIx, kR_ok, kS_ok, kQ_nx, kQ_rt, kQ_bk, kQ_ct, kQ_ex, kC_rt, kC_nx, kC_ex,
  go_ret, go_some, go_bind, go_add, go_sub, go_mul, go_mod, go_div, go_pow, go_shl, go_lt, go_le, go_gt, go_ge, go_eq, go_eqS, go_ne, go_neS, go_eqB, go_eqT0, go_bl, go_tru, go_ixT, go_ixL, go_ixR, go_lenT, go_lenL, go_lenR, go_listT, go_max2, go_min2, go_if, gos_ifB, ifB_t, ifB_f,
  atI0, atI1, atI2, M.opt_some, Option.map_some, Bool.not_true, Bool.not_false, mSlice, mPart0, mRev, go_part, go_neg, go_slT, go_revT, go_rng1, asg, exists_eq_left', Option.some.injEq, D.int.injEq, List.cons.injEq, and_true, true_and, go_isa d _ (tyN_of hs) nm_tuple, q1])
    (rw [gos_cons]; simp only [gos_nil, evS, ev, evs, mArgs, mAnds, mOrs, tAnds, tOrs, Sm.of, Sm.bl, Sm.it, mVar, mCon, conD, mCall, mPrim, mBin, mChain, mAndV, mOrV, mAndT, mOrT, mNotV, mNotT, mIf, mNil, mCons, mTup, mLst, mDic, mYes,
  List.map_cons, List.map_nil, List.cons_append, List.nil_append, List.replicate, List.length_cons, List.length_nil, List.getElem?_cons_zero, List.getElem?_cons_succ, Option.join_some, List.set_cons_zero, List.set_cons_succ, Nat.reduceAdd, Nat.reduceSub, Nat.zero_add, Nat.add_zero,
  gos_seq, gos_next, gos_brk, gos_ct, gos_retN, gos_if, gos_asg, gos_ret, gos_drop, gos_par, gos_for, gos_setIx, kR_ok, kS_ok, kQ_nx, kQ_rt, kQ_bk, kQ_ct, kQ_ex, kC_rt, kC_nx, kC_ex,
  go_ret, go_some, go_bind, go_add, go_sub, go_mul, go_mod, go_div, go_pow, go_shl, go_lt, go_le, go_gt, go_ge, go_eq, go_eqS, go_ne, go_neS, go_eqB, go_eqT0, go_bl, go_tru, go_ixT, go_ixL, go_ixR, go_lenT, go_lenL, go_lenR, go_listT, go_max2, go_min2, go_if, gos_ifB, ifB_t, ifB_f,
  atI0, atI1, atI2, M.opt_some, Option.map_some, Bool.not_true, Bool.not_false, mSlice, mPart0, mRev, go_part, go_neg, go_slT, go_revT, go_rng1, asg, exists_eq_left', Option.some.injEq, D.int.injEq, List.cons.injEq, and_true, true_and, cell0])
    refine (odd (n := n + k) (R := fun r => kS [some (D.cell p), some d, some (D.int k), none, none] (fun d st' => R (.ok d st')) _ r) hp (by omega) fun d' st' t' h' => ?_)
    exact q d' st' (t'.mono (by omega) (by omega) (by omega)) (h'.mono (by omega))
  | true =>
    obtain ⟨l, rfl⟩ := tup_of q1
    have hL0 : 0 ≤ LIM := by decide
    (rw [gos_cons]; simp only [gos_nil, evS, ev, evs, mArgs, mAnds, mOrs, tAnds, tOrs, Sm.of, Sm.bl, Sm.it, mVar, mCon, conD, mCall, mPrim, mBin, mChain, mAndV, mOrV, mAndT, mOrT, mNotV, mNotT, mIf, mNil, mCons, mTup, mLst, mDic, mYes,
  List.map_cons, List.map_nil, List.cons_append, List.nil_append, List.replicate, List.length_cons, List.length_nil, List.getElem?_cons_zero, List.getElem?_cons_succ, Option.join_some, List.set_cons_zero, List.set_cons_succ, Nat.reduceAdd, Nat.reduceSub, Nat.zero_add, Nat.add_zero,
  gos_seq, gos_next, gos_brk, gos_ct, gos_retN, gos_if, gos_asg, gos_ret, gos_drop, gos_par, gos_for, gos_setIx, kR_ok, kS_ok, kQ_nx, kQ_rt, kQ_bk, kQ_ct, kQ_ex, kC_rt, kC_nx, kC_ex,
  go_ret, go_some, go_bind, go_add, go_sub, go_mul, go_mod, go_div, go_pow, go_shl, go_lt, go_le, go_gt, go_ge, go_eq, go_eqS, go_ne, go_neS, go_eqB, go_eqT0, go_bl, go_tru, go_ixT, go_ixL, go_ixR, go_lenT, go_lenL, go_lenR, go_listT, go_max2, go_min2, go_if, gos_ifB, ifB_t, ifB_f,
  atI0, atI1, atI2, M.opt_some, Option.map_some, Bool.not_true, Bool.not_false, mSlice, mPart0, mRev, go_part, go_neg, go_slT, go_revT, go_rng1, asg, exists_eq_left', Option.some.injEq, D.int.injEq, List.cons.injEq, and_true, true_and, go_isa _ _ (tyN_of hs) nm_tuple, isaT, hL0, if_true])
    cases q2 : l.isEmpty with
    | true =>
      simp only [gos_nil, evS, ev, evs, mArgs, mAnds, mOrs, tAnds, tOrs, Sm.of, Sm.bl, Sm.it, mVar, mCon, conD, mCall, mPrim, mBin, mChain, mAndV, mOrV, mAndT, mOrT, mNotV, mNotT, mIf, mNil, mCons, mTup, mLst, mDic, mYes,
  List.map_cons, List.map_nil, List.cons_append, List.nil_append, List.replicate, List.length_cons, List.length_nil, List.getElem?_cons_zero, List.getElem?_cons_succ, Option.join_some, List.set_cons_zero, List.set_cons_succ, Nat.reduceAdd, Nat.reduceSub, Nat.zero_add, Nat.add_zero,
  gos_seq, gos_next, gos_brk, gos_ct, gos_retN, gos_if, gos_asg, gos_ret, gos_drop, gos_par, gos_for, gos_setIx, kR_ok, kS_ok, kQ_nx, kQ_rt, kQ_bk, kQ_ct, kQ_ex, kC_rt, kC_nx, kC_ex,
  go_ret, go_some, go_bind, go_add, go_sub, go_mul, go_mod, go_div, go_pow, go_shl, go_lt, go_le, go_gt, go_ge, go_eq, go_eqS, go_ne, go_neS, go_eqB, go_eqT0, go_bl, go_tru, go_ixT, go_ixL, go_ixR, go_lenT, go_lenL, go_lenR, go_listT, go_max2, go_min2, go_if, gos_ifB, ifB_t, ifB_f,
  atI0, atI1, atI2, M.opt_some, Option.map_some, Bool.not_true, Bool.not_false, mSlice, mPart0, mRev, go_part, go_neg, go_slT, go_revT, go_rng1, asg, exists_eq_left', Option.some.injEq, D.int.injEq, List.cons.injEq, and_true, true_and]
      (rw [gos_cons]; simp only [gos_nil, evS, ev, evs, mArgs, mAnds, mOrs, tAnds, tOrs, Sm.of, Sm.bl, Sm.it, mVar, mCon, conD, mCall, mPrim, mBin, mChain, mAndV, mOrV, mAndT, mOrT, mNotV, mNotT, mIf, mNil, mCons, mTup, mLst, mDic, mYes,
  List.map_cons, List.map_nil, List.cons_append, List.nil_append, List.replicate, List.length_cons, List.length_nil, List.getElem?_cons_zero, List.getElem?_cons_succ, Option.join_some, List.set_cons_zero, List.set_cons_succ, Nat.reduceAdd, Nat.reduceSub, Nat.zero_add, Nat.add_zero,
  gos_seq, gos_next, gos_brk, gos_ct, gos_retN, gos_if, gos_asg, gos_ret, gos_drop, gos_par, gos_for, gos_setIx, kR_ok, kS_ok, kQ_nx, kQ_rt, kQ_bk, kQ_ct, kQ_ex, kC_rt, kC_nx, kC_ex,
  go_ret, go_some, go_bind, go_add, go_sub, go_mul, go_mod, go_div, go_pow, go_shl, go_lt, go_le, go_gt, go_ge, go_eq, go_eqS, go_ne, go_neS, go_eqB, go_eqT0, go_bl, go_tru, go_ixT, go_ixL, go_ixR, go_lenT, go_lenL, go_lenR, go_listT, go_max2, go_min2, go_if, gos_ifB, ifB_t, ifB_f,
  atI0, atI1, atI2, M.opt_some, Option.map_some, Bool.not_true, Bool.not_false, mSlice, mPart0, mRev, go_part, go_neg, go_slT, go_revT, go_rng1, asg, exists_eq_left', Option.some.injEq, D.int.injEq, List.cons.injEq, and_true, true_and, cell0])
      refine odd (n := n + k) hp (by omega) fun d' st' t' h' => ?_
      exact q d' st' (t'.mono (by omega) (by omega) (by omega)) (h'.mono (by omega))
    | false =>
      simp only [gos_nil, evS, ev, evs, mArgs, mAnds, mOrs, tAnds, tOrs, Sm.of, Sm.bl, Sm.it, mVar, mCon, conD, mCall, mPrim, mBin, mChain, mAndV, mOrV, mAndT, mOrT, mNotV, mNotT, mIf, mNil, mCons, mTup, mLst, mDic, mYes,
  List.map_cons, List.map_nil, List.cons_append, List.nil_append, List.replicate, List.length_cons, List.length_nil, List.getElem?_cons_zero, List.getElem?_cons_succ, Option.join_some, List.set_cons_zero, List.set_cons_succ, Nat.reduceAdd, Nat.reduceSub, Nat.zero_add, Nat.add_zero,
  gos_seq, gos_next, gos_brk, gos_ct, gos_retN, gos_if, gos_asg, gos_ret, gos_drop, gos_par, gos_for, gos_setIx, kR_ok, kS_ok, kQ_nx, kQ_rt, kQ_bk, kQ_ct, kQ_ex, kC_rt, kC_nx, kC_ex,
  go_ret, go_some, go_bind, go_add, go_sub, go_mul, go_mod, go_div, go_pow, go_shl, go_lt, go_le, go_gt, go_ge, go_eq, go_eqS, go_ne, go_neS, go_eqB, go_eqT0, go_bl, go_tru, go_ixT, go_ixL, go_ixR, go_lenT, go_lenL, go_lenR, go_listT, go_max2, go_min2, go_if, gos_ifB, ifB_t, ifB_f,
  atI0, atI1, atI2, M.opt_some, Option.map_some, Bool.not_true, Bool.not_false, mSlice, mPart0, mRev, go_part, go_neg, go_slT, go_revT, go_rng1, asg, exists_eq_left', Option.some.injEq, D.int.injEq, List.cons.injEq, and_true, true_and]
      by_cases q3 : k = 0
      · subst q3
        have e : ((0 : Nat) : Int) = 0 := rfl
        simp only [gos_nil, evS, ev, evs, mArgs, mAnds, mOrs, tAnds, tOrs, Sm.of, Sm.bl, Sm.it, mVar, mCon, conD, mCall, mPrim, mBin, mChain, mAndV, mOrV, mAndT, mOrT, mNotV, mNotT, mIf, mNil, mCons, mTup, mLst, mDic, mYes,
  List.map_cons, List.map_nil, List.cons_append, List.nil_append, List.replicate, List.length_cons, List.length_nil, List.getElem?_cons_zero, List.getElem?_cons_succ, Option.join_some, List.set_cons_zero, List.set_cons_succ, Nat.reduceAdd, Nat.reduceSub, Nat.zero_add, Nat.add_zero,
  gos_seq, gos_next, gos_brk, gos_ct, gos_retN, gos_if, gos_asg, gos_ret, gos_drop, gos_par, gos_for, gos_setIx, kR_ok, kS_ok, kQ_nx, kQ_rt, kQ_bk, kQ_ct, kQ_ex, kC_rt, kC_nx, kC_ex,
  go_ret, go_some, go_bind, go_add, go_sub, go_mul, go_mod, go_div, go_pow, go_shl, go_lt, go_le, go_gt, go_ge, go_eq, go_eqS, go_ne, go_neS, go_eqB, go_eqT0, go_bl, go_tru, go_ixT, go_ixL, go_ixR, go_lenT, go_lenL, go_lenR, go_listT, go_max2, go_min2, go_if, gos_ifB, ifB_t, ifB_f,
  atI0, atI1, atI2, M.opt_some, Option.map_some, Bool.not_true, Bool.not_false, mSlice, mPart0, mRev, go_part, go_neg, go_slT, go_revT, go_rng1, asg, exists_eq_left', Option.some.injEq, D.int.injEq, List.cons.injEq, and_true, true_and, e, decide_true]
        (rw [gos_cons]; simp only [gos_nil, evS, ev, evs, mArgs, mAnds, mOrs, tAnds, tOrs, Sm.of, Sm.bl, Sm.it, mVar, mCon, conD, mCall, mPrim, mBin, mChain, mAndV, mOrV, mAndT, mOrT, mNotV, mNotT, mIf, mNil, mCons, mTup, mLst, mDic, mYes,
  List.map_cons, List.map_nil, List.cons_append, List.nil_append, List.replicate, List.length_cons, List.length_nil, List.getElem?_cons_zero, List.getElem?_cons_succ, Option.join_some, List.set_cons_zero, List.set_cons_succ, Nat.reduceAdd, Nat.reduceSub, Nat.zero_add, Nat.add_zero,
  gos_seq, gos_next, gos_brk, gos_ct, gos_retN, gos_if, gos_asg, gos_ret, gos_drop, gos_par, gos_for, gos_setIx, kR_ok, kS_ok, kQ_nx, kQ_rt, kQ_bk, kQ_ct, kQ_ex, kC_rt, kC_nx, kC_ex,
  go_ret, go_some, go_bind, go_add, go_sub, go_mul, go_mod, go_div, go_pow, go_shl, go_lt, go_le, go_gt, go_ge, go_eq, go_eqS, go_ne, go_neS, go_eqB, go_eqT0, go_bl, go_tru, go_ixT, go_ixL, go_ixR, go_lenT, go_lenL, go_lenR, go_listT, go_max2, go_min2, go_if, gos_ifB, ifB_t, ifB_f,
  atI0, atI1, atI2, M.opt_some, Option.map_some, Bool.not_true, Bool.not_false, mSlice, mPart0, mRev, go_part, go_neg, go_slT, go_revT, go_rng1, asg, exists_eq_left', Option.some.injEq, D.int.injEq, List.cons.injEq, and_true, true_and, cell0])
        refine odd (n := n + 0) hp (by omega) fun d' st' t' h' => ?_
        exact q d' st' (t'.mono (by omega) (by omega) (by omega)) (h'.mono (by omega))
      · have e : ¬ ((k : Int) = 0) := by omega
        have hl : 0 < l.length := by
          cases l with
          | nil => cases q2
          | cons _ _ => simp
        have hf : D.fineL Mi l = true := by
          have := t.fine
          unfold D.fine at this
          exact this
        have hf2 : D.fineL (Mi + MB) l = true := fineL_mono (by omega) l hf
        have hw1 : D.wtL l + 1 ≤ w := by
          have := t.wt
          unfold D.wt at this
          exact this
        have hd1 : D.depL l + 1 ≤ h := by
          have := t.dep
          unfold D.dep at this
          exact this
        have hlen := len_wt l
        have hL : ∀ x, x ≤ 30000 → x ≤ LIM := fun x hx => by unfold LIM; omega
        simp only [gos_nil, evS, ev, evs, mArgs, mAnds, mOrs, tAnds, tOrs, Sm.of, Sm.bl, Sm.it, mVar, mCon, conD, mCall, mPrim, mBin, mChain, mAndV, mOrV, mAndT, mOrT, mNotV, mNotT, mIf, mNil, mCons, mTup, mLst, mDic, mYes,
  List.map_cons, List.map_nil, List.cons_append, List.nil_append, List.replicate, List.length_cons, List.length_nil, List.getElem?_cons_zero, List.getElem?_cons_succ, Option.join_some, List.set_cons_zero, List.set_cons_succ, Nat.reduceAdd, Nat.reduceSub, Nat.zero_add, Nat.add_zero,
  gos_seq, gos_next, gos_brk, gos_ct, gos_retN, gos_if, gos_asg, gos_ret, gos_drop, gos_par, gos_for, gos_setIx, kR_ok, kS_ok, kQ_nx, kQ_rt, kQ_bk, kQ_ct, kQ_ex, kC_rt, kC_nx, kC_ex,
  go_ret, go_some, go_bind, go_add, go_sub, go_mul, go_mod, go_div, go_pow, go_shl, go_lt, go_le, go_gt, go_ge, go_eq, go_eqS, go_ne, go_neS, go_eqB, go_eqT0, go_bl, go_tru, go_ixT, go_ixL, go_ixR, go_lenT, go_lenL, go_lenR, go_listT, go_max2, go_min2, go_if, gos_ifB, ifB_t, ifB_f,
  atI0, atI1, atI2, M.opt_some, Option.map_some, Bool.not_true, Bool.not_false, mSlice, mPart0, mRev, go_part, go_neg, go_slT, go_revT, go_rng1, asg, exists_eq_left', Option.some.injEq, D.int.injEq, List.cons.injEq, and_true, true_and, e, decide_false]
        (rw [gos_cons]; simp only [gos_nil, evS, ev, evs, mArgs, mAnds, mOrs, tAnds, tOrs, Sm.of, Sm.bl, Sm.it, mVar, mCon, conD, mCall, mPrim, mBin, mChain, mAndV, mOrV, mAndT, mOrT, mNotV, mNotT, mIf, mNil, mCons, mTup, mLst, mDic, mYes,
  List.map_cons, List.map_nil, List.cons_append, List.nil_append, List.replicate, List.length_cons, List.length_nil, List.getElem?_cons_zero, List.getElem?_cons_succ, Option.join_some, List.set_cons_zero, List.set_cons_succ, Nat.reduceAdd, Nat.reduceSub, Nat.zero_add, Nat.add_zero,
  gos_seq, gos_next, gos_brk, gos_ct, gos_retN, gos_if, gos_asg, gos_ret, gos_drop, gos_par, gos_for, gos_setIx, kR_ok, kS_ok, kQ_nx, kQ_rt, kQ_bk, kQ_ct, kQ_ex, kC_rt, kC_nx, kC_ex,
  go_ret, go_some, go_bind, go_add, go_sub, go_mul, go_mod, go_div, go_pow, go_shl, go_lt, go_le, go_gt, go_ge, go_eq, go_eqS, go_ne, go_neS, go_eqB, go_eqT0, go_bl, go_tru, go_ixT, go_ixL, go_ixR, go_lenT, go_lenL, go_lenR, go_listT, go_max2, go_min2, go_if, gos_ifB, ifB_t, ifB_f,
  atI0, atI1, atI2, M.opt_some, Option.map_some, Bool.not_true, Bool.not_false, mSlice, mPart0, mRev, go_part, go_neg, go_slT, go_revT, go_rng1, asg, exists_eq_left', Option.some.injEq, D.int.injEq, List.cons.injEq, and_true, true_and, cell0])
        refine draw (n := n + k + 1) hp (by omega) (by omega) (by omega) fun r1 st1 a1 b1 h1 => ?_
        simp only [gos_nil, evS, ev, evs, mArgs, mAnds, mOrs, tAnds, tOrs, Sm.of, Sm.bl, Sm.it, mVar, mCon, conD, mCall, mPrim, mBin, mChain, mAndV, mOrV, mAndT, mOrT, mNotV, mNotT, mIf, mNil, mCons, mTup, mLst, mDic, mYes,
  List.map_cons, List.map_nil, List.cons_append, List.nil_append, List.replicate, List.length_cons, List.length_nil, List.getElem?_cons_zero, List.getElem?_cons_succ, Option.join_some, List.set_cons_zero, List.set_cons_succ, Nat.reduceAdd, Nat.reduceSub, Nat.zero_add, Nat.add_zero,
  gos_seq, gos_next, gos_brk, gos_ct, gos_retN, gos_if, gos_asg, gos_ret, gos_drop, gos_par, gos_for, gos_setIx, kR_ok, kS_ok, kQ_nx, kQ_rt, kQ_bk, kQ_ct, kQ_ex, kC_rt, kC_nx, kC_ex,
  go_ret, go_some, go_bind, go_add, go_sub, go_mul, go_mod, go_div, go_pow, go_shl, go_lt, go_le, go_gt, go_ge, go_eq, go_eqS, go_ne, go_neS, go_eqB, go_eqT0, go_bl, go_tru, go_ixT, go_ixL, go_ixR, go_lenT, go_lenL, go_lenR, go_listT, go_max2, go_min2, go_if, gos_ifB, ifB_t, ifB_f,
  atI0, atI1, atI2, M.opt_some, Option.map_some, Bool.not_true, Bool.not_false, mSlice, mPart0, mRev, go_part, go_neg, go_slT, go_revT, go_rng1, asg, exists_eq_left', Option.some.injEq, D.int.injEq, List.cons.injEq, and_true, true_and, cell0]
        refine draw (n := n + k + 1) h1 (by omega) (by omega) (by omega) fun r2 st2 a2 b2 h2 => ?_
        simp only [gos_nil, evS, ev, evs, mArgs, mAnds, mOrs, tAnds, tOrs, Sm.of, Sm.bl, Sm.it, mVar, mCon, conD, mCall, mPrim, mBin, mChain, mAndV, mOrV, mAndT, mOrT, mNotV, mNotT, mIf, mNil, mCons, mTup, mLst, mDic, mYes,
  List.map_cons, List.map_nil, List.cons_append, List.nil_append, List.replicate, List.length_cons, List.length_nil, List.getElem?_cons_zero, List.getElem?_cons_succ, Option.join_some, List.set_cons_zero, List.set_cons_succ, Nat.reduceAdd, Nat.reduceSub, Nat.zero_add, Nat.add_zero,
  gos_seq, gos_next, gos_brk, gos_ct, gos_retN, gos_if, gos_asg, gos_ret, gos_drop, gos_par, gos_for, gos_setIx, kR_ok, kS_ok, kQ_nx, kQ_rt, kQ_bk, kQ_ct, kQ_ex, kC_rt, kC_nx, kC_ex,
  go_ret, go_some, go_bind, go_add, go_sub, go_mul, go_mod, go_div, go_pow, go_shl, go_lt, go_le, go_gt, go_ge, go_eq, go_eqS, go_ne, go_neS, go_eqB, go_eqT0, go_bl, go_tru, go_ixT, go_ixL, go_ixR, go_lenT, go_lenL, go_lenR, go_listT, go_max2, go_min2, go_if, gos_ifB, ifB_t, ifB_f,
  atI0, atI1, atI2, M.opt_some, Option.map_some, Bool.not_true, Bool.not_false, mSlice, mPart0, mRev, go_part, go_neg, go_slT, go_revT, go_rng1, asg, exists_eq_left', Option.some.injEq, D.int.injEq, List.cons.injEq, and_true, true_and]
        obtain ⟨s, rfl⟩ := nat_of a1
        have hs2 : s < l.length := by omega
        have hget : l[s]? = some l[s] := List.getElem?_eq_getElem hs2
        obtain ⟨w1, w2⟩ := splits l s hs2 l[s] hget
        have tk : D.fineL (Mi + MB) (l.take s) = true := fineL_sub in_take hf2
        have td : D.fineL (Mi + MB) (l.drop s) = true := fineL_sub in_drop hf2
        have td1 : D.fineL (Mi + MB) (l.drop (s + 1)) = true := fineL_sub in_drop hf2
        have dk : D.depL (l.take s) ≤ D.depL l := depL_sub in_take
        have dd : D.depL (l.drop s) ≤ D.depL l := depL_sub in_drop
        have dd1 : D.depL (l.drop (s + 1)) ≤ D.depL l := depL_sub in_drop
        have lk := len_wt (l.take s)
        have ld := len_wt (l.drop s)
        have ld1 := len_wt (l.drop (s + 1))
        have eS : ((s : Int) + 1) = ((s + 1 : Nat) : Int) := by omega
        refine ⟨_, _, ⟨rfl, rfl⟩, ?_⟩
        by_cases z0 : r2 = 0
        · (rw [gos_cons]; simp only [gos_nil, evS, ev, evs, mArgs, mAnds, mOrs, tAnds, tOrs, Sm.of, Sm.bl, Sm.it, mVar, mCon, conD, mCall, mPrim, mBin, mChain, mAndV, mOrV, mAndT, mOrT, mNotV, mNotT, mIf, mNil, mCons, mTup, mLst, mDic, mYes,
  List.map_cons, List.map_nil, List.cons_append, List.nil_append, List.replicate, List.length_cons, List.length_nil, List.getElem?_cons_zero, List.getElem?_cons_succ, Option.join_some, List.set_cons_zero, List.set_cons_succ, Nat.reduceAdd, Nat.reduceSub, Nat.zero_add, Nat.add_zero,
  gos_seq, gos_next, gos_brk, gos_ct, gos_retN, gos_if, gos_asg, gos_ret, gos_drop, gos_par, gos_for, gos_setIx, kR_ok, kS_ok, kQ_nx, kQ_rt, kQ_bk, kQ_ct, kQ_ex, kC_rt, kC_nx, kC_ex,
  go_ret, go_some, go_bind, go_add, go_sub, go_mul, go_mod, go_div, go_pow, go_shl, go_lt, go_le, go_gt, go_ge, go_eq, go_eqS, go_ne, go_neS, go_eqB, go_eqT0, go_bl, go_tru, go_ixT, go_ixL, go_ixR, go_lenT, go_lenL, go_lenR, go_listT, go_max2, go_min2, go_if, gos_ifB, ifB_t, ifB_f,
  atI0, atI1, atI2, M.opt_some, Option.map_some, Bool.not_true, Bool.not_false, mSlice, mPart0, mRev, go_part, go_neg, go_slT, go_revT, go_rng1, asg, exists_eq_left', Option.some.injEq, D.int.injEq, List.cons.injEq, and_true, true_and, z0, decide_true])
          (rw [gos_cons]; simp only [gos_nil, evS, ev, evs, mArgs, mAnds, mOrs, tAnds, tOrs, Sm.of, Sm.bl, Sm.it, mVar, mCon, conD, mCall, mPrim, mBin, mChain, mAndV, mOrV, mAndT, mOrT, mNotV, mNotT, mIf, mNil, mCons, mTup, mLst, mDic, mYes,
  List.map_cons, List.map_nil, List.cons_append, List.nil_append, List.replicate, List.length_cons, List.length_nil, List.getElem?_cons_zero, List.getElem?_cons_succ, Option.join_some, List.set_cons_zero, List.set_cons_succ, Nat.reduceAdd, Nat.reduceSub, Nat.zero_add, Nat.add_zero,
  gos_seq, gos_next, gos_brk, gos_ct, gos_retN, gos_if, gos_asg, gos_ret, gos_drop, gos_par, gos_for, gos_setIx, kR_ok, kS_ok, kQ_nx, kQ_rt, kQ_bk, kQ_ct, kQ_ex, kC_rt, kC_nx, kC_ex,
  go_ret, go_some, go_bind, go_add, go_sub, go_mul, go_mod, go_div, go_pow, go_shl, go_lt, go_le, go_gt, go_ge, go_eq, go_eqS, go_ne, go_neS, go_eqB, go_eqT0, go_bl, go_tru, go_ixT, go_ixL, go_ixR, go_lenT, go_lenL, go_lenR, go_listT, go_max2, go_min2, go_if, gos_ifB, ifB_t, ifB_f,
  atI0, atI1, atI2, M.opt_some, Option.map_some, Bool.not_true, Bool.not_false, mSlice, mPart0, mRev, go_part, go_neg, go_slT, go_revT, go_rng1, asg, exists_eq_left', Option.some.injEq, D.int.injEq, List.cons.injEq, and_true, true_and, cell0, cut_to])
          refine odd (n := n + k) h2 (by omega) fun o st3 t3 h3 => ?_
          have o1 := t3.wt
          have o2 := t3.dep
          have o3 := fine_mono (show MB ≤ Mi + MB by omega) o t3.fine
          have hL1 : 1 ≤ LIM := by decide
          simp only [gos_nil, evS, ev, evs, mArgs, mAnds, mOrs, tAnds, tOrs, Sm.of, Sm.bl, Sm.it, mVar, mCon, conD, mCall, mPrim, mBin, mChain, mAndV, mOrV, mAndT, mOrT, mNotV, mNotT, mIf, mNil, mCons, mTup, mLst, mDic, mYes,
  List.map_cons, List.map_nil, List.cons_append, List.nil_append, List.replicate, List.length_cons, List.length_nil, List.getElem?_cons_zero, List.getElem?_cons_succ, Option.join_some, List.set_cons_zero, List.set_cons_succ, Nat.reduceAdd, Nat.reduceSub, Nat.zero_add, Nat.add_zero,
  gos_seq, gos_next, gos_brk, gos_ct, gos_retN, gos_if, gos_asg, gos_ret, gos_drop, gos_par, gos_for, gos_setIx, kR_ok, kS_ok, kQ_nx, kQ_rt, kQ_bk, kQ_ct, kQ_ex, kC_rt, kC_nx, kC_ex,
  go_ret, go_some, go_bind, go_add, go_sub, go_mul, go_mod, go_div, go_pow, go_shl, go_lt, go_le, go_gt, go_ge, go_eq, go_eqS, go_ne, go_neS, go_eqB, go_eqT0, go_bl, go_tru, go_ixT, go_ixL, go_ixR, go_lenT, go_lenL, go_lenR, go_listT, go_max2, go_min2, go_if, gos_ifB, ifB_t, ifB_f,
  atI0, atI1, atI2, M.opt_some, Option.map_some, Bool.not_true, Bool.not_false, mSlice, mPart0, mRev, go_part, go_neg, go_slT, go_revT, go_rng1, asg, exists_eq_left', Option.some.injEq, D.int.injEq, List.cons.injEq, and_true, true_and, hL1, if_true, go_addT, cut_from, List.length_append, List.length_singleton]
          refine ⟨hL _ (by omega), hL _ (by omega), q _ _ (th_tup ?_ ?_ ?_) (h3.mono (by omega))⟩
          · rw [fineL_append, fineL_append, fineL_cons, tk, o3, td]; rfl
          · rw [wtL_append, wtL_append, wtL_cons]; simp only [D.wtL]; omega
          · rw [depL_append, depL_append, depL_cons]; simp only [D.depL]; omega
        · (rw [gos_cons]; simp only [gos_nil, evS, ev, evs, mArgs, mAnds, mOrs, tAnds, tOrs, Sm.of, Sm.bl, Sm.it, mVar, mCon, conD, mCall, mPrim, mBin, mChain, mAndV, mOrV, mAndT, mOrT, mNotV, mNotT, mIf, mNil, mCons, mTup, mLst, mDic, mYes,
  List.map_cons, List.map_nil, List.cons_append, List.nil_append, List.replicate, List.length_cons, List.length_nil, List.getElem?_cons_zero, List.getElem?_cons_succ, Option.join_some, List.set_cons_zero, List.set_cons_succ, Nat.reduceAdd, Nat.reduceSub, Nat.zero_add, Nat.add_zero,
  gos_seq, gos_next, gos_brk, gos_ct, gos_retN, gos_if, gos_asg, gos_ret, gos_drop, gos_par, gos_for, gos_setIx, kR_ok, kS_ok, kQ_nx, kQ_rt, kQ_bk, kQ_ct, kQ_ex, kC_rt, kC_nx, kC_ex,
  go_ret, go_some, go_bind, go_add, go_sub, go_mul, go_mod, go_div, go_pow, go_shl, go_lt, go_le, go_gt, go_ge, go_eq, go_eqS, go_ne, go_neS, go_eqB, go_eqT0, go_bl, go_tru, go_ixT, go_ixL, go_ixR, go_lenT, go_lenL, go_lenR, go_listT, go_max2, go_min2, go_if, gos_ifB, ifB_t, ifB_f,
  atI0, atI1, atI2, M.opt_some, Option.map_some, Bool.not_true, Bool.not_false, mSlice, mPart0, mRev, go_part, go_neg, go_slT, go_revT, go_rng1, asg, exists_eq_left', Option.some.injEq, D.int.injEq, List.cons.injEq, and_true, true_and, z0, decide_false])
          by_cases z1 : r2 = 1
          · (rw [gos_cons]; simp only [gos_nil, evS, ev, evs, mArgs, mAnds, mOrs, tAnds, tOrs, Sm.of, Sm.bl, Sm.it, mVar, mCon, conD, mCall, mPrim, mBin, mChain, mAndV, mOrV, mAndT, mOrT, mNotV, mNotT, mIf, mNil, mCons, mTup, mLst, mDic, mYes,
  List.map_cons, List.map_nil, List.cons_append, List.nil_append, List.replicate, List.length_cons, List.length_nil, List.getElem?_cons_zero, List.getElem?_cons_succ, Option.join_some, List.set_cons_zero, List.set_cons_succ, Nat.reduceAdd, Nat.reduceSub, Nat.zero_add, Nat.add_zero,
  gos_seq, gos_next, gos_brk, gos_ct, gos_retN, gos_if, gos_asg, gos_ret, gos_drop, gos_par, gos_for, gos_setIx, kR_ok, kS_ok, kQ_nx, kQ_rt, kQ_bk, kQ_ct, kQ_ex, kC_rt, kC_nx, kC_ex,
  go_ret, go_some, go_bind, go_add, go_sub, go_mul, go_mod, go_div, go_pow, go_shl, go_lt, go_le, go_gt, go_ge, go_eq, go_eqS, go_ne, go_neS, go_eqB, go_eqT0, go_bl, go_tru, go_ixT, go_ixL, go_ixR, go_lenT, go_lenL, go_lenR, go_listT, go_max2, go_min2, go_if, gos_ifB, ifB_t, ifB_f,
  atI0, atI1, atI2, M.opt_some, Option.map_some, Bool.not_true, Bool.not_false, mSlice, mPart0, mRev, go_part, go_neg, go_slT, go_revT, go_rng1, asg, exists_eq_left', Option.some.injEq, D.int.injEq, List.cons.injEq, and_true, true_and, z1, decide_true])
            (rw [gos_cons]; simp only [gos_nil, evS, ev, evs, mArgs, mAnds, mOrs, tAnds, tOrs, Sm.of, Sm.bl, Sm.it, mVar, mCon, conD, mCall, mPrim, mBin, mChain, mAndV, mOrV, mAndT, mOrT, mNotV, mNotT, mIf, mNil, mCons, mTup, mLst, mDic, mYes,
  List.map_cons, List.map_nil, List.cons_append, List.nil_append, List.replicate, List.length_cons, List.length_nil, List.getElem?_cons_zero, List.getElem?_cons_succ, Option.join_some, List.set_cons_zero, List.set_cons_succ, Nat.reduceAdd, Nat.reduceSub, Nat.zero_add, Nat.add_zero,
  gos_seq, gos_next, gos_brk, gos_ct, gos_retN, gos_if, gos_asg, gos_ret, gos_drop, gos_par, gos_for, gos_setIx, kR_ok, kS_ok, kQ_nx, kQ_rt, kQ_bk, kQ_ct, kQ_ex, kC_rt, kC_nx, kC_ex,
  go_ret, go_some, go_bind, go_add, go_sub, go_mul, go_mod, go_div, go_pow, go_shl, go_lt, go_le, go_gt, go_ge, go_eq, go_eqS, go_ne, go_neS, go_eqB, go_eqT0, go_bl, go_tru, go_ixT, go_ixL, go_ixR, go_lenT, go_lenL, go_lenR, go_listT, go_max2, go_min2, go_if, gos_ifB, ifB_t, ifB_f,
  atI0, atI1, atI2, M.opt_some, Option.map_some, Bool.not_true, Bool.not_false, mSlice, mPart0, mRev, go_part, go_neg, go_slT, go_revT, go_rng1, asg, exists_eq_left', Option.some.injEq, D.int.injEq, List.cons.injEq, and_true, true_and, cut_to, go_addT])
            rw [eS, cut_from]
            refine ⟨hL _ (by omega), q _ _ (th_tup ?_ ?_ ?_) (h2.mono (by omega))⟩
            · rw [fineL_append, tk, td1]; rfl
            · rw [wtL_append]; omega
            · rw [depL_append]; omega
          · (rw [gos_cons]; simp only [gos_nil, evS, ev, evs, mArgs, mAnds, mOrs, tAnds, tOrs, Sm.of, Sm.bl, Sm.it, mVar, mCon, conD, mCall, mPrim, mBin, mChain, mAndV, mOrV, mAndT, mOrT, mNotV, mNotT, mIf, mNil, mCons, mTup, mLst, mDic, mYes,
  List.map_cons, List.map_nil, List.cons_append, List.nil_append, List.replicate, List.length_cons, List.length_nil, List.getElem?_cons_zero, List.getElem?_cons_succ, Option.join_some, List.set_cons_zero, List.set_cons_succ, Nat.reduceAdd, Nat.reduceSub, Nat.zero_add, Nat.add_zero,
  gos_seq, gos_next, gos_brk, gos_ct, gos_retN, gos_if, gos_asg, gos_ret, gos_drop, gos_par, gos_for, gos_setIx, kR_ok, kS_ok, kQ_nx, kQ_rt, kQ_bk, kQ_ct, kQ_ex, kC_rt, kC_nx, kC_ex,
  go_ret, go_some, go_bind, go_add, go_sub, go_mul, go_mod, go_div, go_pow, go_shl, go_lt, go_le, go_gt, go_ge, go_eq, go_eqS, go_ne, go_neS, go_eqB, go_eqT0, go_bl, go_tru, go_ixT, go_ixL, go_ixR, go_lenT, go_lenL, go_lenR, go_listT, go_max2, go_min2, go_if, gos_ifB, ifB_t, ifB_f,
  atI0, atI1, atI2, M.opt_some, Option.map_some, Bool.not_true, Bool.not_false, mSlice, mPart0, mRev, go_part, go_neg, go_slT, go_revT, go_rng1, asg, exists_eq_left', Option.some.injEq, D.int.injEq, List.cons.injEq, and_true, true_and, z1, decide_false])
            by_cases z2 : r2 = 2
            · (rw [gos_cons]; simp only [gos_nil, evS, ev, evs, mArgs, mAnds, mOrs, tAnds, tOrs, Sm.of, Sm.bl, Sm.it, mVar, mCon, conD, mCall, mPrim, mBin, mChain, mAndV, mOrV, mAndT, mOrT, mNotV, mNotT, mIf, mNil, mCons, mTup, mLst, mDic, mYes,
  List.map_cons, List.map_nil, List.cons_append, List.nil_append, List.replicate, List.length_cons, List.length_nil, List.getElem?_cons_zero, List.getElem?_cons_succ, Option.join_some, List.set_cons_zero, List.set_cons_succ, Nat.reduceAdd, Nat.reduceSub, Nat.zero_add, Nat.add_zero,
  gos_seq, gos_next, gos_brk, gos_ct, gos_retN, gos_if, gos_asg, gos_ret, gos_drop, gos_par, gos_for, gos_setIx, kR_ok, kS_ok, kQ_nx, kQ_rt, kQ_bk, kQ_ct, kQ_ex, kC_rt, kC_nx, kC_ex,
  go_ret, go_some, go_bind, go_add, go_sub, go_mul, go_mod, go_div, go_pow, go_shl, go_lt, go_le, go_gt, go_ge, go_eq, go_eqS, go_ne, go_neS, go_eqB, go_eqT0, go_bl, go_tru, go_ixT, go_ixL, go_ixR, go_lenT, go_lenL, go_lenR, go_listT, go_max2, go_min2, go_if, gos_ifB, ifB_t, ifB_f,
  atI0, atI1, atI2, M.opt_some, Option.map_some, Bool.not_true, Bool.not_false, mSlice, mPart0, mRev, go_part, go_neg, go_slT, go_revT, go_rng1, asg, exists_eq_left', Option.some.injEq, D.int.injEq, List.cons.injEq, and_true, true_and, z2, decide_true])
              (rw [gos_cons]; simp only [gos_nil, evS, ev, evs, mArgs, mAnds, mOrs, tAnds, tOrs, Sm.of, Sm.bl, Sm.it, mVar, mCon, conD, mCall, mPrim, mBin, mChain, mAndV, mOrV, mAndT, mOrT, mNotV, mNotT, mIf, mNil, mCons, mTup, mLst, mDic, mYes,
  List.map_cons, List.map_nil, List.cons_append, List.nil_append, List.replicate, List.length_cons, List.length_nil, List.getElem?_cons_zero, List.getElem?_cons_succ, Option.join_some, List.set_cons_zero, List.set_cons_succ, Nat.reduceAdd, Nat.reduceSub, Nat.zero_add, Nat.add_zero,
  gos_seq, gos_next, gos_brk, gos_ct, gos_retN, gos_if, gos_asg, gos_ret, gos_drop, gos_par, gos_for, gos_setIx, kR_ok, kS_ok, kQ_nx, kQ_rt, kQ_bk, kQ_ct, kQ_ex, kC_rt, kC_nx, kC_ex,
  go_ret, go_some, go_bind, go_add, go_sub, go_mul, go_mod, go_div, go_pow, go_shl, go_lt, go_le, go_gt, go_ge, go_eq, go_eqS, go_ne, go_neS, go_eqB, go_eqT0, go_bl, go_tru, go_ixT, go_ixL, go_ixR, go_lenT, go_lenL, go_lenR, go_listT, go_max2, go_min2, go_if, gos_ifB, ifB_t, ifB_f,
  atI0, atI1, atI2, M.opt_some, Option.map_some, Bool.not_true, Bool.not_false, mSlice, mPart0, mRev, go_part, go_neg, go_slT, go_revT, go_rng1, asg, exists_eq_left', Option.some.injEq, D.int.injEq, List.cons.injEq, and_true, true_and, cut_to, go_addT, cut_from, cut_one l s hs2])
              have o1 : D.wtL ((l.drop s).take 1) ≤ D.wtL (l.drop s) := by
                have := take_drop_wt (l.drop s) 1
                omega
              have o2 : D.depL ((l.drop s).take 1) ≤ D.depL (l.drop s) := depL_sub in_take
              have o3 : D.fineL (Mi + MB) ((l.drop s).take 1) = true := fineL_sub in_take td
              have o4 := len_wt ((l.drop s).take 1)
              simp only [List.length_append]
              refine ⟨hL _ (by omega), hL _ (by omega), q _ _ (th_tup ?_ ?_ ?_) (h2.mono (by omega))⟩
              · rw [fineL_append, fineL_append, tk, o3, td]; rfl
              · rw [wtL_append, wtL_append]; omega
              · rw [depL_append, depL_append]; omega
            · (rw [gos_cons]; simp only [gos_nil, evS, ev, evs, mArgs, mAnds, mOrs, tAnds, tOrs, Sm.of, Sm.bl, Sm.it, mVar, mCon, conD, mCall, mPrim, mBin, mChain, mAndV, mOrV, mAndT, mOrT, mNotV, mNotT, mIf, mNil, mCons, mTup, mLst, mDic, mYes,
  List.map_cons, List.map_nil, List.cons_append, List.nil_append, List.replicate, List.length_cons, List.length_nil, List.getElem?_cons_zero, List.getElem?_cons_succ, Option.join_some, List.set_cons_zero, List.set_cons_succ, Nat.reduceAdd, Nat.reduceSub, Nat.zero_add, Nat.add_zero,
  gos_seq, gos_next, gos_brk, gos_ct, gos_retN, gos_if, gos_asg, gos_ret, gos_drop, gos_par, gos_for, gos_setIx, kR_ok, kS_ok, kQ_nx, kQ_rt, kQ_bk, kQ_ct, kQ_ex, kC_rt, kC_nx, kC_ex,
  go_ret, go_some, go_bind, go_add, go_sub, go_mul, go_mod, go_div, go_pow, go_shl, go_lt, go_le, go_gt, go_ge, go_eq, go_eqS, go_ne, go_neS, go_eqB, go_eqT0, go_bl, go_tru, go_ixT, go_ixL, go_ixR, go_lenT, go_lenL, go_lenR, go_listT, go_max2, go_min2, go_if, gos_ifB, ifB_t, ifB_f,
  atI0, atI1, atI2, M.opt_some, Option.map_some, Bool.not_true, Bool.not_false, mSlice, mPart0, mRev, go_part, go_neg, go_slT, go_revT, go_rng1, asg, exists_eq_left', Option.some.injEq, D.int.injEq, List.cons.injEq, and_true, true_and, z2, decide_false])
              by_cases z3 : r2 = 3
              · have hL2 : 2 ≤ LIM := by decide
                (rw [gos_cons]; simp only [gos_nil, evS, ev, evs, mArgs, mAnds, mOrs, tAnds, tOrs, Sm.of, Sm.bl, Sm.it, mVar, mCon, conD, mCall, mPrim, mBin, mChain, mAndV, mOrV, mAndT, mOrT, mNotV, mNotT, mIf, mNil, mCons, mTup, mLst, mDic, mYes,
  List.map_cons, List.map_nil, List.cons_append, List.nil_append, List.replicate, List.length_cons, List.length_nil, List.getElem?_cons_zero, List.getElem?_cons_succ, Option.join_some, List.set_cons_zero, List.set_cons_succ, Nat.reduceAdd, Nat.reduceSub, Nat.zero_add, Nat.add_zero,
  gos_seq, gos_next, gos_brk, gos_ct, gos_retN, gos_if, gos_asg, gos_ret, gos_drop, gos_par, gos_for, gos_setIx, kR_ok, kS_ok, kQ_nx, kQ_rt, kQ_bk, kQ_ct, kQ_ex, kC_rt, kC_nx, kC_ex,
  go_ret, go_some, go_bind, go_add, go_sub, go_mul, go_mod, go_div, go_pow, go_shl, go_lt, go_le, go_gt, go_ge, go_eq, go_eqS, go_ne, go_neS, go_eqB, go_eqT0, go_bl, go_tru, go_ixT, go_ixL, go_ixR, go_lenT, go_lenL, go_lenR, go_listT, go_max2, go_min2, go_if, gos_ifB, ifB_t, ifB_f,
  atI0, atI1, atI2, M.opt_some, Option.map_some, Bool.not_true, Bool.not_false, mSlice, mPart0, mRev, go_part, go_neg, go_slT, go_revT, go_rng1, asg, exists_eq_left', Option.some.injEq, D.int.injEq, List.cons.injEq, and_true, true_and, z3, decide_true])
                (rw [gos_cons]; simp only [gos_nil, evS, ev, evs, mArgs, mAnds, mOrs, tAnds, tOrs, Sm.of, Sm.bl, Sm.it, mVar, mCon, conD, mCall, mPrim, mBin, mChain, mAndV, mOrV, mAndT, mOrT, mNotV, mNotT, mIf, mNil, mCons, mTup, mLst, mDic, mYes,
  List.map_cons, List.map_nil, List.cons_append, List.nil_append, List.replicate, List.length_cons, List.length_nil, List.getElem?_cons_zero, List.getElem?_cons_succ, Option.join_some, List.set_cons_zero, List.set_cons_succ, Nat.reduceAdd, Nat.reduceSub, Nat.zero_add, Nat.add_zero,
  gos_seq, gos_next, gos_brk, gos_ct, gos_retN, gos_if, gos_asg, gos_ret, gos_drop, gos_par, gos_for, gos_setIx, kR_ok, kS_ok, kQ_nx, kQ_rt, kQ_bk, kQ_ct, kQ_ex, kC_rt, kC_nx, kC_ex,
  go_ret, go_some, go_bind, go_add, go_sub, go_mul, go_mod, go_div, go_pow, go_shl, go_lt, go_le, go_gt, go_ge, go_eq, go_eqS, go_ne, go_neS, go_eqB, go_eqT0, go_bl, go_tru, go_ixT, go_ixL, go_ixR, go_lenT, go_lenL, go_lenR, go_listT, go_max2, go_min2, go_if, gos_ifB, ifB_t, ifB_f,
  atI0, atI1, atI2, M.opt_some, Option.map_some, Bool.not_true, Bool.not_false, mSlice, mPart0, mRev, go_part, go_neg, go_slT, go_revT, go_rng1, asg, exists_eq_left', Option.some.injEq, D.int.injEq, List.cons.injEq, and_true, true_and, cell0, hL2, if_true])
                refine draw (n := n + k + 1) h2 (by omega) (by omega) (by omega) fun r3 st3 a3 b3 h3 => ?_
                simp only [gos_nil, evS, ev, evs, mArgs, mAnds, mOrs, tAnds, tOrs, Sm.of, Sm.bl, Sm.it, mVar, mCon, conD, mCall, mPrim, mBin, mChain, mAndV, mOrV, mAndT, mOrT, mNotV, mNotT, mIf, mNil, mCons, mTup, mLst, mDic, mYes,
  List.map_cons, List.map_nil, List.cons_append, List.nil_append, List.replicate, List.length_cons, List.length_nil, List.getElem?_cons_zero, List.getElem?_cons_succ, Option.join_some, List.set_cons_zero, List.set_cons_succ, Nat.reduceAdd, Nat.reduceSub, Nat.zero_add, Nat.add_zero,
  gos_seq, gos_next, gos_brk, gos_ct, gos_retN, gos_if, gos_asg, gos_ret, gos_drop, gos_par, gos_for, gos_setIx, kR_ok, kS_ok, kQ_nx, kQ_rt, kQ_bk, kQ_ct, kQ_ex, kC_rt, kC_nx, kC_ex,
  go_ret, go_some, go_bind, go_add, go_sub, go_mul, go_mod, go_div, go_pow, go_shl, go_lt, go_le, go_gt, go_ge, go_eq, go_eqS, go_ne, go_neS, go_eqB, go_eqT0, go_bl, go_tru, go_ixT, go_ixL, go_ixR, go_lenT, go_lenL, go_lenR, go_listT, go_max2, go_min2, go_if, gos_ifB, ifB_t, ifB_f,
  atI0, atI1, atI2, M.opt_some, Option.map_some, Bool.not_true, Bool.not_false, mSlice, mPart0, mRev, go_part, go_neg, go_slT, go_revT, go_rng1, asg, exists_eq_left', Option.some.injEq, D.int.injEq, List.cons.injEq, and_true, true_and]
                obtain ⟨d3, e3, hd3⟩ := atI_mem [D.lst l, .tup l.reverse] r3 a3 (by simp; omega)
                refine ⟨d3, e3, q d3 st3 ?_ (h3.mono (by omega))⟩
                have base : Th (Mi + MB) (2 * w + 6) (h + 2) (.tup l) := t.mono (by omega) (by omega) (by omega)
                simp only [List.mem_cons, List.not_mem_nil, or_false] at hd3
                rcases hd3 with rfl | rfl
                · exact th_lst base
                · refine th_tup (fineL_sub (fun x hx => List.mem_reverse.mp hx) hf2) ?_ ?_
                  · rw [wtL_reverse]; omega
                  · have := depL_sub (l := l) (l' := l.reverse) fun x hx => List.mem_reverse.mp hx
                    omega
              · (rw [gos_cons]; simp only [gos_nil, evS, ev, evs, mArgs, mAnds, mOrs, tAnds, tOrs, Sm.of, Sm.bl, Sm.it, mVar, mCon, conD, mCall, mPrim, mBin, mChain, mAndV, mOrV, mAndT, mOrT, mNotV, mNotT, mIf, mNil, mCons, mTup, mLst, mDic, mYes,
  List.map_cons, List.map_nil, List.cons_append, List.nil_append, List.replicate, List.length_cons, List.length_nil, List.getElem?_cons_zero, List.getElem?_cons_succ, Option.join_some, List.set_cons_zero, List.set_cons_succ, Nat.reduceAdd, Nat.reduceSub, Nat.zero_add, Nat.add_zero,
  gos_seq, gos_next, gos_brk, gos_ct, gos_retN, gos_if, gos_asg, gos_ret, gos_drop, gos_par, gos_for, gos_setIx, kR_ok, kS_ok, kQ_nx, kQ_rt, kQ_bk, kQ_ct, kQ_ex, kC_rt, kC_nx, kC_ex,
  go_ret, go_some, go_bind, go_add, go_sub, go_mul, go_mod, go_div, go_pow, go_shl, go_lt, go_le, go_gt, go_ge, go_eq, go_eqS, go_ne, go_neS, go_eqB, go_eqT0, go_bl, go_tru, go_ixT, go_ixL, go_ixR, go_lenT, go_lenL, go_lenR, go_listT, go_max2, go_min2, go_if, gos_ifB, ifB_t, ifB_f,
  atI0, atI1, atI2, M.opt_some, Option.map_some, Bool.not_true, Bool.not_false, mSlice, mPart0, mRev, go_part, go_neg, go_slT, go_revT, go_rng1, asg, exists_eq_left', Option.some.injEq, D.int.injEq, List.cons.injEq, and_true, true_and, z3, decide_false])
                (rw [gos_cons]; simp only [gos_nil, evS, ev, evs, mArgs, mAnds, mOrs, tAnds, tOrs, Sm.of, Sm.bl, Sm.it, mVar, mCon, conD, mCall, mPrim, mBin, mChain, mAndV, mOrV, mAndT, mOrT, mNotV, mNotT, mIf, mNil, mCons, mTup, mLst, mDic, mYes,
  List.map_cons, List.map_nil, List.cons_append, List.nil_append, List.replicate, List.length_cons, List.length_nil, List.getElem?_cons_zero, List.getElem?_cons_succ, Option.join_some, List.set_cons_zero, List.set_cons_succ, Nat.reduceAdd, Nat.reduceSub, Nat.zero_add, Nat.add_zero,
  gos_seq, gos_next, gos_brk, gos_ct, gos_retN, gos_if, gos_asg, gos_ret, gos_drop, gos_par, gos_for, gos_setIx, kR_ok, kS_ok, kQ_nx, kQ_rt, kQ_bk, kQ_ct, kQ_ex, kC_rt, kC_nx, kC_ex,
  go_ret, go_some, go_bind, go_add, go_sub, go_mul, go_mod, go_div, go_pow, go_shl, go_lt, go_le, go_gt, go_ge, go_eq, go_eqS, go_ne, go_neS, go_eqB, go_eqT0, go_bl, go_tru, go_ixT, go_ixL, go_ixR, go_lenT, go_lenL, go_lenR, go_listT, go_max2, go_min2, go_if, gos_ifB, ifB_t, ifB_f,
  atI0, atI1, atI2, M.opt_some, Option.map_some, Bool.not_true, Bool.not_false, mSlice, mPart0, mRev, go_part, go_neg, go_slT, go_revT, go_rng1, asg, exists_eq_left', Option.some.injEq, D.int.injEq, List.cons.injEq, and_true, true_and, cell0, cut_to])
                refine ⟨l[s], by rw [atI_nat l s hs2]; exact hget, ?_⟩
                have hm : l[s] ∈ l := List.getElem_mem hs2
                have e1 := wt_mem hm
                have e2 := dep_mem hm
                have e3 := fineL_iff.mp hf _ hm
                refine rec (by omega) _ st2 _ _ _ l[s] h2 (by omega) ⟨e3, Nat.le_refl _, Nat.le_refl _⟩ (by omega) fun o st3 t3 h3 => ?_
                have o1 := t3.wt
                have o2 := t3.dep
                have o3 := t3.fine
                have hL1 : 1 ≤ LIM := by decide
                simp only [gos_nil, evS, ev, evs, mArgs, mAnds, mOrs, tAnds, tOrs, Sm.of, Sm.bl, Sm.it, mVar, mCon, conD, mCall, mPrim, mBin, mChain, mAndV, mOrV, mAndT, mOrT, mNotV, mNotT, mIf, mNil, mCons, mTup, mLst, mDic, mYes,
  List.map_cons, List.map_nil, List.cons_append, List.nil_append, List.replicate, List.length_cons, List.length_nil, List.getElem?_cons_zero, List.getElem?_cons_succ, Option.join_some, List.set_cons_zero, List.set_cons_succ, Nat.reduceAdd, Nat.reduceSub, Nat.zero_add, Nat.add_zero,
  gos_seq, gos_next, gos_brk, gos_ct, gos_retN, gos_if, gos_asg, gos_ret, gos_drop, gos_par, gos_for, gos_setIx, kR_ok, kS_ok, kQ_nx, kQ_rt, kQ_bk, kQ_ct, kQ_ex, kC_rt, kC_nx, kC_ex,
  go_ret, go_some, go_bind, go_add, go_sub, go_mul, go_mod, go_div, go_pow, go_shl, go_lt, go_le, go_gt, go_ge, go_eq, go_eqS, go_ne, go_neS, go_eqB, go_eqT0, go_bl, go_tru, go_ixT, go_ixL, go_ixR, go_lenT, go_lenL, go_lenR, go_listT, go_max2, go_min2, go_if, gos_ifB, ifB_t, ifB_f,
  atI0, atI1, atI2, M.opt_some, Option.map_some, Bool.not_true, Bool.not_false, mSlice, mPart0, mRev, go_part, go_neg, go_slT, go_revT, go_rng1, asg, exists_eq_left', Option.some.injEq, D.int.injEq, List.cons.injEq, and_true, true_and, hL1, if_true, go_addT, List.length_append, List.length_singleton]
                rw [eS, cut_from]
                refine ⟨hL _ (by omega), hL _ (by omega), q _ _ (th_tup ?_ ?_ ?_) (h3.mono (by omega))⟩
                · rw [fineL_append, fineL_append, fineL_cons, tk, o3, td1]; rfl
                · rw [wtL_append, wtL_append, wtL_cons]; simp only [D.wtL]; omega
                · rw [depL_append, depL_append, depL_cons]; simp only [D.depL]; omega
theorem bent_step (k : Nat) (n p : Nat) (B : Int) (st : Sto) (R : Res D → Prop) (Mi w h : Nat) (d : D) (hp : PenAt p B st) (hB : B + 4 * (k + 1) ≤ 1000000) (t : Th Mi w h d) (hM : MB ≤ Mi) (hM2 : Mi + MB < 10 ^ 18) (hw : w ≤ 10000) (q : ∀ d' st', Th (Mi + MB) (2 * w + 6) (h + 2) d' → PenAt p (B + 4 * (k + 1)) st' → R (.ok d' st'))
    (rec : 0 < k → ∀ (B : Int) (st : Sto) (R : Res D → Prop) (w h : Nat) (d : D), PenAt p B st → B + 4 * k ≤ 1000000 → Th Mi w h d → w ≤ 10000 → (∀ d' st', Th (Mi + MB) (2 * w + 6) (h + 2) d' → PenAt p (B + 4 * k) st' → R (.ok d' st')) → Go (cD (n + k + 2) 17 [.cell p, d, .int ((k : Int) - 1)]) st R) :
    Go (cD (n + k + 3) 17 [.cell p, d, .int k]) st R := by
  have nn := hp.nn
  have hs : d.solid = true := (fine_ok (M := Mi) (by omega) d t.fine).1
  rw [cD, go_call (f := f17) rfl rfl]
  show GoS (evSs _ _ b_law_bent) _ _ _
  rw [show b_law_bent = (.ife (.and [(.call 12 [(.var 1)]), (.cmp .Gt (.call 10 [(.var 0), (.con (.int 3))]) (.con (.int 0)))]) [.ret (.ix (.lst [(.bin .Add (.var 1) (.con (.int 1))), (.bin .Sub (.var 1) (.con (.int 1))), (.bin .Sub (.con (.int 0)) (.var 1)), (.bin .Add (.var 1) (.con (.int 64))), (.bin .Pow (.con (.int 10)) (.con (.int 11))), (.con (.bool true))]) (.call 10 [(.var 0), (.con (.int 6))]))] []) :: b_law_bent.drop 1 from rfl]
  (rw [gos_cons]; simp only [gos_nil, evS, ev, evs, mArgs, mAnds, mOrs, tAnds, tOrs, Sm.of, Sm.bl, Sm.it, mVar, mCon, conD, mCall, mPrim, mBin, mChain, mAndV, mOrV, mAndT, mOrT, mNotV, mNotT, mIf, mNil, mCons, mTup, mLst, mDic, mYes,
  List.map_cons, List.map_nil, List.cons_append, List.nil_append, List.replicate, List.length_cons, List.length_nil, List.getElem?_cons_zero, List.getElem?_cons_succ, Option.join_some, List.set_cons_zero, List.set_cons_succ, Nat.reduceAdd, Nat.reduceSub, Nat.zero_add, Nat.add_zero,
  gos_seq, gos_next, gos_brk, gos_ct, gos_retN, gos_if, gos_asg, gos_ret, gos_drop, gos_par, gos_for, gos_setIx, kR_ok, kS_ok, kQ_nx, kQ_rt, kQ_bk, kQ_ct, kQ_ex, kC_rt, kC_nx, kC_ex,
  go_ret, go_some, go_bind, go_add, go_sub, go_mul, go_mod, go_div, go_pow, go_shl, go_lt, go_le, go_gt, go_ge, go_eq, go_eqS, go_ne, go_neS, go_eqB, go_eqT0, go_bl, go_tru, go_ixT, go_ixL, go_ixR, go_lenT, go_lenL, go_lenR, go_listT, go_max2, go_min2, go_if, gos_ifB, ifB_t, ifB_f,
  atI0, atI1, atI2, M.opt_some, Option.map_some, Bool.not_true, Bool.not_false, mSlice, mPart0, mRev, go_part, go_neg, go_slT, go_revT, go_rng1, asg, exists_eq_left', Option.some.injEq, D.int.injEq, List.cons.injEq, and_true, true_and, cell0, sp12 (n := n + k + 1) hs])
  cases q1 : wholeB d with
  | false =>
    simp only [gos_nil, evS, ev, evs, mArgs, mAnds, mOrs, tAnds, tOrs, Sm.of, Sm.bl, Sm.it, mVar, mCon, conD, mCall, mPrim, mBin, mChain, mAndV, mOrV, mAndT, mOrT, mNotV, mNotT, mIf, mNil, mCons, mTup, mLst, mDic, mYes,
  List.map_cons, List.map_nil, List.cons_append, List.nil_append, List.replicate, List.length_cons, List.length_nil, List.getElem?_cons_zero, List.getElem?_cons_succ, Option.join_some, List.set_cons_zero, List.set_cons_succ, Nat.reduceAdd, Nat.reduceSub, Nat.zero_add, Nat.add_zero,
  gos_seq, gos_next, gos_brk, gos_ct, gos_retN, gos_if, gos_asg, gos_ret, gos_drop, gos_par, gos_for, gos_setIx, kR_ok, kS_ok, kQ_nx, kQ_rt, kQ_bk, kQ_ct, kQ_ex, kC_rt, kC_nx, kC_ex,
  go_ret, go_some, go_bind, go_add, go_sub, go_mul, go_mod, go_div, go_pow, go_shl, go_lt, go_le, go_gt, go_ge, go_eq, go_eqS, go_ne, go_neS, go_eqB, go_eqT0, go_bl, go_tru, go_ixT, go_ixL, go_ixR, go_lenT, go_lenL, go_lenR, go_listT, go_max2, go_min2, go_if, gos_ifB, ifB_t, ifB_f,
  atI0, atI1, atI2, M.opt_some, Option.map_some, Bool.not_true, Bool.not_false, mSlice, mPart0, mRev, go_part, go_neg, go_slT, go_revT, go_rng1, asg, exists_eq_left', Option.some.injEq, D.int.injEq, List.cons.injEq, and_true, true_and]
    exact bent_rest k n p B st R Mi w h d hp (by omega) t hM hM2 hw (fun d' st' t' h' => q d' st' t' (h'.mono (by omega))) rec
  | true =>
    obtain ⟨i, rfl⟩ := whole_int q1
    simp only [gos_nil, evS, ev, evs, mArgs, mAnds, mOrs, tAnds, tOrs, Sm.of, Sm.bl, Sm.it, mVar, mCon, conD, mCall, mPrim, mBin, mChain, mAndV, mOrV, mAndT, mOrT, mNotV, mNotT, mIf, mNil, mCons, mTup, mLst, mDic, mYes,
  List.map_cons, List.map_nil, List.cons_append, List.nil_append, List.replicate, List.length_cons, List.length_nil, List.getElem?_cons_zero, List.getElem?_cons_succ, Option.join_some, List.set_cons_zero, List.set_cons_succ, Nat.reduceAdd, Nat.reduceSub, Nat.zero_add, Nat.add_zero,
  gos_seq, gos_next, gos_brk, gos_ct, gos_retN, gos_if, gos_asg, gos_ret, gos_drop, gos_par, gos_for, gos_setIx, kR_ok, kS_ok, kQ_nx, kQ_rt, kQ_bk, kQ_ct, kQ_ex, kC_rt, kC_nx, kC_ex,
  go_ret, go_some, go_bind, go_add, go_sub, go_mul, go_mod, go_div, go_pow, go_shl, go_lt, go_le, go_gt, go_ge, go_eq, go_eqS, go_ne, go_neS, go_eqB, go_eqT0, go_bl, go_tru, go_ixT, go_ixL, go_ixR, go_lenT, go_lenL, go_lenR, go_listT, go_max2, go_min2, go_if, gos_ifB, ifB_t, ifB_f,
  atI0, atI1, atI2, M.opt_some, Option.map_some, Bool.not_true, Bool.not_false, mSlice, mPart0, mRev, go_part, go_neg, go_slT, go_revT, go_rng1, asg, exists_eq_left', Option.some.injEq, D.int.injEq, List.cons.injEq, and_true, true_and]
    refine draw (n := n + k + 1) hp (by omega) (by omega) (by omega) fun r1 st1 a1 b1 h1 => ?_
    simp only [gos_nil, evS, ev, evs, mArgs, mAnds, mOrs, tAnds, tOrs, Sm.of, Sm.bl, Sm.it, mVar, mCon, conD, mCall, mPrim, mBin, mChain, mAndV, mOrV, mAndT, mOrT, mNotV, mNotT, mIf, mNil, mCons, mTup, mLst, mDic, mYes,
  List.map_cons, List.map_nil, List.cons_append, List.nil_append, List.replicate, List.length_cons, List.length_nil, List.getElem?_cons_zero, List.getElem?_cons_succ, Option.join_some, List.set_cons_zero, List.set_cons_succ, Nat.reduceAdd, Nat.reduceSub, Nat.zero_add, Nat.add_zero,
  gos_seq, gos_next, gos_brk, gos_ct, gos_retN, gos_if, gos_asg, gos_ret, gos_drop, gos_par, gos_for, gos_setIx, kR_ok, kS_ok, kQ_nx, kQ_rt, kQ_bk, kQ_ct, kQ_ex, kC_rt, kC_nx, kC_ex,
  go_ret, go_some, go_bind, go_add, go_sub, go_mul, go_mod, go_div, go_pow, go_shl, go_lt, go_le, go_gt, go_ge, go_eq, go_eqS, go_ne, go_neS, go_eqB, go_eqT0, go_bl, go_tru, go_ixT, go_ixL, go_ixR, go_lenT, go_lenL, go_lenR, go_listT, go_max2, go_min2, go_if, gos_ifB, ifB_t, ifB_f,
  atI0, atI1, atI2, M.opt_some, Option.map_some, Bool.not_true, Bool.not_false, mSlice, mPart0, mRev, go_part, go_neg, go_slT, go_revT, go_rng1, asg, exists_eq_left', Option.some.injEq, D.int.injEq, List.cons.injEq, and_true, true_and]
    by_cases z : 0 < r1
    · simp only [gos_nil, evS, ev, evs, mArgs, mAnds, mOrs, tAnds, tOrs, Sm.of, Sm.bl, Sm.it, mVar, mCon, conD, mCall, mPrim, mBin, mChain, mAndV, mOrV, mAndT, mOrT, mNotV, mNotT, mIf, mNil, mCons, mTup, mLst, mDic, mYes,
  List.map_cons, List.map_nil, List.cons_append, List.nil_append, List.replicate, List.length_cons, List.length_nil, List.getElem?_cons_zero, List.getElem?_cons_succ, Option.join_some, List.set_cons_zero, List.set_cons_succ, Nat.reduceAdd, Nat.reduceSub, Nat.zero_add, Nat.add_zero,
  gos_seq, gos_next, gos_brk, gos_ct, gos_retN, gos_if, gos_asg, gos_ret, gos_drop, gos_par, gos_for, gos_setIx, kR_ok, kS_ok, kQ_nx, kQ_rt, kQ_bk, kQ_ct, kQ_ex, kC_rt, kC_nx, kC_ex,
  go_ret, go_some, go_bind, go_add, go_sub, go_mul, go_mod, go_div, go_pow, go_shl, go_lt, go_le, go_gt, go_ge, go_eq, go_eqS, go_ne, go_neS, go_eqB, go_eqT0, go_bl, go_tru, go_ixT, go_ixL, go_ixR, go_lenT, go_lenL, go_lenR, go_listT, go_max2, go_min2, go_if, gos_ifB, ifB_t, ifB_f,
  atI0, atI1, atI2, M.opt_some, Option.map_some, Bool.not_true, Bool.not_false, mSlice, mPart0, mRev, go_part, go_neg, go_slT, go_revT, go_rng1, asg, exists_eq_left', Option.some.injEq, D.int.injEq, List.cons.injEq, and_true, true_and, z, decide_true]
      (rw [gos_cons]; simp only [gos_nil, evS, ev, evs, mArgs, mAnds, mOrs, tAnds, tOrs, Sm.of, Sm.bl, Sm.it, mVar, mCon, conD, mCall, mPrim, mBin, mChain, mAndV, mOrV, mAndT, mOrT, mNotV, mNotT, mIf, mNil, mCons, mTup, mLst, mDic, mYes,
  List.map_cons, List.map_nil, List.cons_append, List.nil_append, List.replicate, List.length_cons, List.length_nil, List.getElem?_cons_zero, List.getElem?_cons_succ, Option.join_some, List.set_cons_zero, List.set_cons_succ, Nat.reduceAdd, Nat.reduceSub, Nat.zero_add, Nat.add_zero,
  gos_seq, gos_next, gos_brk, gos_ct, gos_retN, gos_if, gos_asg, gos_ret, gos_drop, gos_par, gos_for, gos_setIx, kR_ok, kS_ok, kQ_nx, kQ_rt, kQ_bk, kQ_ct, kQ_ex, kC_rt, kC_nx, kC_ex,
  go_ret, go_some, go_bind, go_add, go_sub, go_mul, go_mod, go_div, go_pow, go_shl, go_lt, go_le, go_gt, go_ge, go_eq, go_eqS, go_ne, go_neS, go_eqB, go_eqT0, go_bl, go_tru, go_ixT, go_ixL, go_ixR, go_lenT, go_lenL, go_lenR, go_listT, go_max2, go_min2, go_if, gos_ifB, ifB_t, ifB_f,
  atI0, atI1, atI2, M.opt_some, Option.map_some, Bool.not_true, Bool.not_false, mSlice, mPart0, mRev, go_part, go_neg, go_slT, go_revT, go_rng1, asg, exists_eq_left', Option.some.injEq, D.int.injEq, List.cons.injEq, and_true, true_and])
      refine ⟨by decide, ?_⟩
      have hL6 : 6 ≤ LIM := by decide
      simp only [gos_nil, evS, ev, evs, mArgs, mAnds, mOrs, tAnds, tOrs, Sm.of, Sm.bl, Sm.it, mVar, mCon, conD, mCall, mPrim, mBin, mChain, mAndV, mOrV, mAndT, mOrT, mNotV, mNotT, mIf, mNil, mCons, mTup, mLst, mDic, mYes,
  List.map_cons, List.map_nil, List.cons_append, List.nil_append, List.replicate, List.length_cons, List.length_nil, List.getElem?_cons_zero, List.getElem?_cons_succ, Option.join_some, List.set_cons_zero, List.set_cons_succ, Nat.reduceAdd, Nat.reduceSub, Nat.zero_add, Nat.add_zero,
  gos_seq, gos_next, gos_brk, gos_ct, gos_retN, gos_if, gos_asg, gos_ret, gos_drop, gos_par, gos_for, gos_setIx, kR_ok, kS_ok, kQ_nx, kQ_rt, kQ_bk, kQ_ct, kQ_ex, kC_rt, kC_nx, kC_ex,
  go_ret, go_some, go_bind, go_add, go_sub, go_mul, go_mod, go_div, go_pow, go_shl, go_lt, go_le, go_gt, go_ge, go_eq, go_eqS, go_ne, go_neS, go_eqB, go_eqT0, go_bl, go_tru, go_ixT, go_ixL, go_ixR, go_lenT, go_lenL, go_lenR, go_listT, go_max2, go_min2, go_if, gos_ifB, ifB_t, ifB_f,
  atI0, atI1, atI2, M.opt_some, Option.map_some, Bool.not_true, Bool.not_false, mSlice, mPart0, mRev, go_part, go_neg, go_slT, go_revT, go_rng1, asg, exists_eq_left', Option.some.injEq, D.int.injEq, List.cons.injEq, and_true, true_and, hL6, if_true, cell0]
      refine draw (n := n + k + 1) h1 (by omega) (by omega) (by omega) fun r2 st2 a2 b2 h2 => ?_
      simp only [gos_nil, evS, ev, evs, mArgs, mAnds, mOrs, tAnds, tOrs, Sm.of, Sm.bl, Sm.it, mVar, mCon, conD, mCall, mPrim, mBin, mChain, mAndV, mOrV, mAndT, mOrT, mNotV, mNotT, mIf, mNil, mCons, mTup, mLst, mDic, mYes,
  List.map_cons, List.map_nil, List.cons_append, List.nil_append, List.replicate, List.length_cons, List.length_nil, List.getElem?_cons_zero, List.getElem?_cons_succ, Option.join_some, List.set_cons_zero, List.set_cons_succ, Nat.reduceAdd, Nat.reduceSub, Nat.zero_add, Nat.add_zero,
  gos_seq, gos_next, gos_brk, gos_ct, gos_retN, gos_if, gos_asg, gos_ret, gos_drop, gos_par, gos_for, gos_setIx, kR_ok, kS_ok, kQ_nx, kQ_rt, kQ_bk, kQ_ct, kQ_ex, kC_rt, kC_nx, kC_ex,
  go_ret, go_some, go_bind, go_add, go_sub, go_mul, go_mod, go_div, go_pow, go_shl, go_lt, go_le, go_gt, go_ge, go_eq, go_eqS, go_ne, go_neS, go_eqB, go_eqT0, go_bl, go_tru, go_ixT, go_ixL, go_ixR, go_lenT, go_lenL, go_lenR, go_listT, go_max2, go_min2, go_if, gos_ifB, ifB_t, ifB_f,
  atI0, atI1, atI2, M.opt_some, Option.map_some, Bool.not_true, Bool.not_false, mSlice, mPart0, mRev, go_part, go_neg, go_slT, go_revT, go_rng1, asg, exists_eq_left', Option.some.injEq, D.int.injEq, List.cons.injEq, and_true, true_and]
      have e : (10 ^ (11 : Int).toNat : Int) = 100000000000 := by decide
      rw [e]
      obtain ⟨d3, e3, hd3⟩ := atI_mem [D.int (i + 1), .int (i - 1), .int (0 - i), .int (i + 64), .int 100000000000, .bl true] r2 a2 (by simp; omega)
      refine ⟨d3, e3, q d3 st2 ?_ (h2.mono (by omega))⟩
      have hi : i.natAbs ≤ Mi := by
        have := t.fine
        unfold D.fine at this
        exact of_decide_eq_true this
      have eMB : MB = 100000000000 := rfl
      simp only [List.mem_cons, List.not_mem_nil, or_false] at hd3
      rcases hd3 with rfl | rfl | rfl | rfl | rfl | rfl
      · exact (th_int (by omega)).mono (Nat.le_refl _) (by omega) (by omega)
      · exact (th_int (by omega)).mono (Nat.le_refl _) (by omega) (by omega)
      · exact (th_int (by omega)).mono (Nat.le_refl _) (by omega) (by omega)
      · exact (th_int (by omega)).mono (Nat.le_refl _) (by omega) (by omega)
      · exact (th_int (by omega)).mono (Nat.le_refl _) (by omega) (by omega)
      · exact (th_bl _).mono (Nat.le_refl _) (by omega) (by omega)
    · simp only [gos_nil, evS, ev, evs, mArgs, mAnds, mOrs, tAnds, tOrs, Sm.of, Sm.bl, Sm.it, mVar, mCon, conD, mCall, mPrim, mBin, mChain, mAndV, mOrV, mAndT, mOrT, mNotV, mNotT, mIf, mNil, mCons, mTup, mLst, mDic, mYes,
  List.map_cons, List.map_nil, List.cons_append, List.nil_append, List.replicate, List.length_cons, List.length_nil, List.getElem?_cons_zero, List.getElem?_cons_succ, Option.join_some, List.set_cons_zero, List.set_cons_succ, Nat.reduceAdd, Nat.reduceSub, Nat.zero_add, Nat.add_zero,
  gos_seq, gos_next, gos_brk, gos_ct, gos_retN, gos_if, gos_asg, gos_ret, gos_drop, gos_par, gos_for, gos_setIx, kR_ok, kS_ok, kQ_nx, kQ_rt, kQ_bk, kQ_ct, kQ_ex, kC_rt, kC_nx, kC_ex,
  go_ret, go_some, go_bind, go_add, go_sub, go_mul, go_mod, go_div, go_pow, go_shl, go_lt, go_le, go_gt, go_ge, go_eq, go_eqS, go_ne, go_neS, go_eqB, go_eqT0, go_bl, go_tru, go_ixT, go_ixL, go_ixR, go_lenT, go_lenL, go_lenR, go_listT, go_max2, go_min2, go_if, gos_ifB, ifB_t, ifB_f,
  atI0, atI1, atI2, M.opt_some, Option.map_some, Bool.not_true, Bool.not_false, mSlice, mPart0, mRev, go_part, go_neg, go_slT, go_revT, go_rng1, asg, exists_eq_left', Option.some.injEq, D.int.injEq, List.cons.injEq, and_true, true_and, z, decide_false]
      exact bent_rest k n p (B + 1) st1 R Mi w h (.int i) h1 (by omega) t hM hM2 hw (fun d' st' t' h' => q d' st' t' (h'.mono (by omega))) rec
theorem bent (k : Nat) : ∀ (n p : Nat) (B : Int) (st : Sto) (R : Res D → Prop) (Mi w h : Nat) (d : D), PenAt p B st → B + 4 * (k + 1) ≤ 1000000 → Th Mi w h d → MB ≤ Mi → Mi + MB < 10 ^ 18 → w ≤ 10000 → (∀ d' st', Th (Mi + MB) (2 * w + 6) (h + 2) d' → PenAt p (B + 4 * (k + 1)) st' → R (.ok d' st')) →
    Go (cD (n + k + 3) 17 [.cell p, d, .int k]) st R := by
  induction k with
  | zero => exact fun n p B st R Mi w h d hp hB t hM hM2 hw q => bent_step 0 n p B st R Mi w h d hp hB t hM hM2 hw q fun z => absurd z (by omega)
  | succ k ih =>
    intro n p B st R Mi w h d hp hB t hM hM2 hw q
    refine bent_step (k + 1) n p B st R Mi w h d hp hB t hM hM2 hw q fun _ B st R w h d hp hB t hw q => ?_
    have e : (((k + 1 : Nat) : Int) - 1) = (k : Int) := by omega
    rw [e]
    exact ih n p B st R Mi w h d hp (by omega) t hM hM2 hw fun d' st' t' h' => q d' st' t' (h'.mono (by omega))
end
end K30

set_option maxHeartbeats 4000000
namespace K30
open PySem PySem.Spec PyProof.Rows L2 MC
abbrev MT : Nat := 300000000000
abbrev TT (d : D) : Prop := Th MT 300 20 d
theorem go_new {st : Sto} {R : Res D → Prop} (c : C) : Go (M.newC c) st R = R (.ok (.cell st.length) (st ++ [c])) := by
  apply propext
  exact ⟨fun ⟨r, e, q⟩ => by cases e; exact q, fun q => ⟨_, rfl, q⟩⟩
section
variable {st : Sto} {R : Res D → Prop} {n p : Nat} {B : Int}
theorem cell_at {ns : List Int} {k : Int} (h0 : 0 ≤ k) (q : ∀ z, R (.ok (.int z) st)) : Go (cD (n + 1) 8 [.ro (ns.map .int), .int k]) st R := by
  rw [cD, go_call (f := f8) rfl rfl]
  show GoS (evSs _ _ b_law_cell_at) _ _ _
  unfold b_law_cell_at
  (rw [gos_cons]; simp only [gos_nil, evS, ev, evs, mArgs, mAnds, mOrs, tAnds, tOrs, Sm.of, Sm.bl, Sm.it, mVar, mCon, conD, mCall, mPrim, mBin, mChain, mAndV, mOrV, mAndT, mOrT, mNotV, mNotT, mIf, mNil, mCons, mTup, mLst, mDic, mYes,
  List.map_cons, List.map_nil, List.cons_append, List.nil_append, List.replicate, List.length_cons, List.length_nil, List.getElem?_cons_zero, List.getElem?_cons_succ, Option.join_some, List.set_cons_zero, List.set_cons_succ, Nat.reduceAdd, Nat.reduceSub, Nat.zero_add, Nat.add_zero,
  gos_seq, gos_next, gos_brk, gos_ct, gos_retN, gos_if, gos_asg, gos_ret, gos_drop, gos_par, gos_for, gos_setIx, kR_ok, kS_ok, kQ_nx, kQ_rt, kQ_bk, kQ_ct, kQ_ex, kC_rt, kC_nx, kC_ex,
  go_ret, go_some, go_bind, go_add, go_sub, go_mul, go_mod, go_div, go_pow, go_shl, go_lt, go_le, go_gt, go_ge, go_eq, go_eqS, go_ne, go_neS, go_eqB, go_eqT0, go_bl, go_tru, go_ixT, go_ixL, go_ixR, go_lenT, go_lenL, go_lenR, go_listT, go_max2, go_min2, go_if, gos_ifB, ifB_t, ifB_f,
  atI0, atI1, atI2, M.opt_some, Option.map_some, Bool.not_true, Bool.not_false, mSlice, mPart0, mRev, go_part, go_neg, go_slT, go_revT, go_rng1, asg, exists_eq_left', Option.some.injEq, D.int.injEq, List.cons.injEq, and_true, true_and])
  by_cases h : k < ((ns.map D.int).length : Int)
  · simp only [gos_nil, evS, ev, evs, mArgs, mAnds, mOrs, tAnds, tOrs, Sm.of, Sm.bl, Sm.it, mVar, mCon, conD, mCall, mPrim, mBin, mChain, mAndV, mOrV, mAndT, mOrT, mNotV, mNotT, mIf, mNil, mCons, mTup, mLst, mDic, mYes,
  List.map_cons, List.map_nil, List.cons_append, List.nil_append, List.replicate, List.length_cons, List.length_nil, List.getElem?_cons_zero, List.getElem?_cons_succ, Option.join_some, List.set_cons_zero, List.set_cons_succ, Nat.reduceAdd, Nat.reduceSub, Nat.zero_add, Nat.add_zero,
  gos_seq, gos_next, gos_brk, gos_ct, gos_retN, gos_if, gos_asg, gos_ret, gos_drop, gos_par, gos_for, gos_setIx, kR_ok, kS_ok, kQ_nx, kQ_rt, kQ_bk, kQ_ct, kQ_ex, kC_rt, kC_nx, kC_ex,
  go_ret, go_some, go_bind, go_add, go_sub, go_mul, go_mod, go_div, go_pow, go_shl, go_lt, go_le, go_gt, go_ge, go_eq, go_eqS, go_ne, go_neS, go_eqB, go_eqT0, go_bl, go_tru, go_ixT, go_ixL, go_ixR, go_lenT, go_lenL, go_lenR, go_listT, go_max2, go_min2, go_if, gos_ifB, ifB_t, ifB_f,
  atI0, atI1, atI2, M.opt_some, Option.map_some, Bool.not_true, Bool.not_false, mSlice, mPart0, mRev, go_part, go_neg, go_slT, go_revT, go_rng1, asg, exists_eq_left', Option.some.injEq, D.int.injEq, List.cons.injEq, and_true, true_and, h, decide_true]
    (rw [gos_cons]; simp only [gos_nil, evS, ev, evs, mArgs, mAnds, mOrs, tAnds, tOrs, Sm.of, Sm.bl, Sm.it, mVar, mCon, conD, mCall, mPrim, mBin, mChain, mAndV, mOrV, mAndT, mOrT, mNotV, mNotT, mIf, mNil, mCons, mTup, mLst, mDic, mYes,
  List.map_cons, List.map_nil, List.cons_append, List.nil_append, List.replicate, List.length_cons, List.length_nil, List.getElem?_cons_zero, List.getElem?_cons_succ, Option.join_some, List.set_cons_zero, List.set_cons_succ, Nat.reduceAdd, Nat.reduceSub, Nat.zero_add, Nat.add_zero,
  gos_seq, gos_next, gos_brk, gos_ct, gos_retN, gos_if, gos_asg, gos_ret, gos_drop, gos_par, gos_for, gos_setIx, kR_ok, kS_ok, kQ_nx, kQ_rt, kQ_bk, kQ_ct, kQ_ex, kC_rt, kC_nx, kC_ex,
  go_ret, go_some, go_bind, go_add, go_sub, go_mul, go_mod, go_div, go_pow, go_shl, go_lt, go_le, go_gt, go_ge, go_eq, go_eqS, go_ne, go_neS, go_eqB, go_eqT0, go_bl, go_tru, go_ixT, go_ixL, go_ixR, go_lenT, go_lenL, go_lenR, go_listT, go_max2, go_min2, go_if, gos_ifB, ifB_t, ifB_f,
  atI0, atI1, atI2, M.opt_some, Option.map_some, Bool.not_true, Bool.not_false, mSlice, mPart0, mRev, go_part, go_neg, go_slT, go_revT, go_rng1, asg, exists_eq_left', Option.some.injEq, D.int.injEq, List.cons.injEq, and_true, true_and])
    obtain ⟨d, e, hd⟩ := atI_mem (ns.map D.int) k h0 h
    obtain ⟨z, _, rfl⟩ := List.mem_map.mp hd
    exact ⟨_, e, q z⟩
  · simp only [gos_nil, evS, ev, evs, mArgs, mAnds, mOrs, tAnds, tOrs, Sm.of, Sm.bl, Sm.it, mVar, mCon, conD, mCall, mPrim, mBin, mChain, mAndV, mOrV, mAndT, mOrT, mNotV, mNotT, mIf, mNil, mCons, mTup, mLst, mDic, mYes,
  List.map_cons, List.map_nil, List.cons_append, List.nil_append, List.replicate, List.length_cons, List.length_nil, List.getElem?_cons_zero, List.getElem?_cons_succ, Option.join_some, List.set_cons_zero, List.set_cons_succ, Nat.reduceAdd, Nat.reduceSub, Nat.zero_add, Nat.add_zero,
  gos_seq, gos_next, gos_brk, gos_ct, gos_retN, gos_if, gos_asg, gos_ret, gos_drop, gos_par, gos_for, gos_setIx, kR_ok, kS_ok, kQ_nx, kQ_rt, kQ_bk, kQ_ct, kQ_ex, kC_rt, kC_nx, kC_ex,
  go_ret, go_some, go_bind, go_add, go_sub, go_mul, go_mod, go_div, go_pow, go_shl, go_lt, go_le, go_gt, go_ge, go_eq, go_eqS, go_ne, go_neS, go_eqB, go_eqT0, go_bl, go_tru, go_ixT, go_ixL, go_ixR, go_lenT, go_lenL, go_lenR, go_listT, go_max2, go_min2, go_if, gos_ifB, ifB_t, ifB_f,
  atI0, atI1, atI2, M.opt_some, Option.map_some, Bool.not_true, Bool.not_false, mSlice, mPart0, mRev, go_part, go_neg, go_slT, go_revT, go_rng1, asg, exists_eq_left', Option.some.injEq, D.int.injEq, List.cons.injEq, and_true, true_and, h, decide_false]
    (rw [gos_cons]; simp only [gos_nil, evS, ev, evs, mArgs, mAnds, mOrs, tAnds, tOrs, Sm.of, Sm.bl, Sm.it, mVar, mCon, conD, mCall, mPrim, mBin, mChain, mAndV, mOrV, mAndT, mOrT, mNotV, mNotT, mIf, mNil, mCons, mTup, mLst, mDic, mYes,
  List.map_cons, List.map_nil, List.cons_append, List.nil_append, List.replicate, List.length_cons, List.length_nil, List.getElem?_cons_zero, List.getElem?_cons_succ, Option.join_some, List.set_cons_zero, List.set_cons_succ, Nat.reduceAdd, Nat.reduceSub, Nat.zero_add, Nat.add_zero,
  gos_seq, gos_next, gos_brk, gos_ct, gos_retN, gos_if, gos_asg, gos_ret, gos_drop, gos_par, gos_for, gos_setIx, kR_ok, kS_ok, kQ_nx, kQ_rt, kQ_bk, kQ_ct, kQ_ex, kC_rt, kC_nx, kC_ex,
  go_ret, go_some, go_bind, go_add, go_sub, go_mul, go_mod, go_div, go_pow, go_shl, go_lt, go_le, go_gt, go_ge, go_eq, go_eqS, go_ne, go_neS, go_eqB, go_eqT0, go_bl, go_tru, go_ixT, go_ixL, go_ixR, go_lenT, go_lenL, go_lenR, go_listT, go_max2, go_min2, go_if, gos_ifB, ifB_t, ifB_f,
  atI0, atI1, atI2, M.opt_some, Option.map_some, Bool.not_true, Bool.not_false, mSlice, mPart0, mRev, go_part, go_neg, go_slT, go_revT, go_rng1, asg, exists_eq_left', Option.some.injEq, D.int.injEq, List.cons.injEq, and_true, true_and])
    exact q 0
theorem pen {z : Int} (q : ∀ p st', PenAt p 0 st' → R (.ok (.cell p) st')) : Go (cD (n + 1) 9 [.int z]) st R := by
  rw [cD, go_call (f := f9) rfl rfl]
  show GoS (evSs _ _ b_law_pen) _ _ _
  unfold b_law_pen
  have hL3 : 3 ≤ LIM := by decide
  (rw [gos_cons]; simp only [gos_nil, evS, ev, evs, mArgs, mAnds, mOrs, tAnds, tOrs, Sm.of, Sm.bl, Sm.it, mVar, mCon, conD, mCall, mPrim, mBin, mChain, mAndV, mOrV, mAndT, mOrT, mNotV, mNotT, mIf, mNil, mCons, mTup, mLst, mDic, mYes,
  List.map_cons, List.map_nil, List.cons_append, List.nil_append, List.replicate, List.length_cons, List.length_nil, List.getElem?_cons_zero, List.getElem?_cons_succ, Option.join_some, List.set_cons_zero, List.set_cons_succ, Nat.reduceAdd, Nat.reduceSub, Nat.zero_add, Nat.add_zero,
  gos_seq, gos_next, gos_brk, gos_ct, gos_retN, gos_if, gos_asg, gos_ret, gos_drop, gos_par, gos_for, gos_setIx, kR_ok, kS_ok, kQ_nx, kQ_rt, kQ_bk, kQ_ct, kQ_ex, kC_rt, kC_nx, kC_ex,
  go_ret, go_some, go_bind, go_add, go_sub, go_mul, go_mod, go_div, go_pow, go_shl, go_lt, go_le, go_gt, go_ge, go_eq, go_eqS, go_ne, go_neS, go_eqB, go_eqT0, go_bl, go_tru, go_ixT, go_ixL, go_ixR, go_lenT, go_lenL, go_lenR, go_listT, go_max2, go_min2, go_if, gos_ifB, ifB_t, ifB_f,
  atI0, atI1, atI2, M.opt_some, Option.map_some, Bool.not_true, Bool.not_false, mSlice, mPart0, mRev, go_part, go_neg, go_slT, go_revT, go_rng1, asg, exists_eq_left', Option.some.injEq, D.int.injEq, List.cons.injEq, and_true, true_and, mLstC, hL3, if_true])
  refine ⟨by decide, by simp [cMod], ?_⟩
  simp only [gos_nil, evS, ev, evs, mArgs, mAnds, mOrs, tAnds, tOrs, Sm.of, Sm.bl, Sm.it, mVar, mCon, conD, mCall, mPrim, mBin, mChain, mAndV, mOrV, mAndT, mOrT, mNotV, mNotT, mIf, mNil, mCons, mTup, mLst, mDic, mYes,
  List.map_cons, List.map_nil, List.cons_append, List.nil_append, List.replicate, List.length_cons, List.length_nil, List.getElem?_cons_zero, List.getElem?_cons_succ, Option.join_some, List.set_cons_zero, List.set_cons_succ, Nat.reduceAdd, Nat.reduceSub, Nat.zero_add, Nat.add_zero,
  gos_seq, gos_next, gos_brk, gos_ct, gos_retN, gos_if, gos_asg, gos_ret, gos_drop, gos_par, gos_for, gos_setIx, kR_ok, kS_ok, kQ_nx, kQ_rt, kQ_bk, kQ_ct, kQ_ex, kC_rt, kC_nx, kC_ex,
  go_ret, go_some, go_bind, go_add, go_sub, go_mul, go_mod, go_div, go_pow, go_shl, go_lt, go_le, go_gt, go_ge, go_eq, go_eqS, go_ne, go_neS, go_eqB, go_eqT0, go_bl, go_tru, go_ixT, go_ixL, go_ixR, go_lenT, go_lenL, go_lenR, go_listT, go_max2, go_min2, go_if, gos_ifB, ifB_t, ifB_f,
  atI0, atI1, atI2, M.opt_some, Option.map_some, Bool.not_true, Bool.not_false, mSlice, mPart0, mRev, go_part, go_neg, go_slT, go_revT, go_rng1, asg, exists_eq_left', Option.some.injEq, D.int.injEq, List.cons.injEq, and_true, true_and, hL3, if_true, go_new]
  refine q _ _ ⟨max 0 (z - 10 ^ Int.toNat 18), z % 1000000007, 0, ?_, by omega, Int.emod_nonneg _ (by decide), Int.emod_lt_of_pos _ (by decide), Int.le_refl _, Int.le_refl _⟩
  rw [List.getElem?_append_right (Nat.le_refl _), Nat.sub_self]
  rfl
theorem is_tree {d : D} {i : Int} (h : ∀ st R, Go (cD (n + 25) 6 [d]) st R = R (.ok (.int i) st)) : Go (cD (n + 26) 7 [d]) st R = R (.ok (.bl (decide (i ≤ 12))) st) := by
  rw [cD, go_call (f := f7) rfl rfl]
  show GoS (evSs _ _ b_is_tree) _ _ _ = _
  unfold b_is_tree
  (rw [gos_cons]; simp only [gos_nil, evS, ev, evs, mArgs, mAnds, mOrs, tAnds, tOrs, Sm.of, Sm.bl, Sm.it, mVar, mCon, conD, mCall, mPrim, mBin, mChain, mAndV, mOrV, mAndT, mOrT, mNotV, mNotT, mIf, mNil, mCons, mTup, mLst, mDic, mYes,
  List.map_cons, List.map_nil, List.cons_append, List.nil_append, List.replicate, List.length_cons, List.length_nil, List.getElem?_cons_zero, List.getElem?_cons_succ, Option.join_some, List.set_cons_zero, List.set_cons_succ, Nat.reduceAdd, Nat.reduceSub, Nat.zero_add, Nat.add_zero,
  gos_seq, gos_next, gos_brk, gos_ct, gos_retN, gos_if, gos_asg, gos_ret, gos_drop, gos_par, gos_for, gos_setIx, kR_ok, kS_ok, kQ_nx, kQ_rt, kQ_bk, kQ_ct, kQ_ex, kC_rt, kC_nx, kC_ex,
  go_ret, go_some, go_bind, go_add, go_sub, go_mul, go_mod, go_div, go_pow, go_shl, go_lt, go_le, go_gt, go_ge, go_eq, go_eqS, go_ne, go_neS, go_eqB, go_eqT0, go_bl, go_tru, go_ixT, go_ixL, go_ixR, go_lenT, go_lenL, go_lenR, go_listT, go_max2, go_min2, go_if, gos_ifB, ifB_t, ifB_f,
  atI0, atI1, atI2, M.opt_some, Option.map_some, Bool.not_true, Bool.not_false, mSlice, mPart0, mRev, go_part, go_neg, go_slT, go_revT, go_rng1, asg, exists_eq_left', Option.some.injEq, D.int.injEq, List.cons.injEq, and_true, true_and, cell0, h, lkN])
theorem bl_show (b : Bool) : (D.bl b).showB = true := showB_of (M := 1) (by decide) rfl (by unfold D.wt; omega) (by unfold D.dep; omega)
/-- the things are asked one by one -/
theorem ask (things : List D) (ρ : Rho) (Q : SR → Prop) (x0 x1 x2 x3 x4 x5 : Option D) (y z : Option D) (hρ : ρ = [x0, x1, x2, x3, x4, x5, y, z]) (ht : ∀ d ∈ things, TT d) (q : ∀ y z, Q (.nx [x0, x1, x2, x3, x4, x5, y, z] st)) :
    GoS (forL (.nm 6) (evSs (callD T Γ.gl 59) Γ.gl [.asg (.nm 7) (.prim .repr [(.var 6)]), .ife (.or [(.cmp .NotEq (.prim .repr [(.call 7 [(.var 6)])]) (.prim .repr [(.cmp .Lt (.call 18 [(.var 6)]) (.con (.int 13)))])), (.cmp .NotEq (.prim .repr [(.var 6)]) (.var 7))]) [.ret (.con (.bool false))] []]) things) ρ st Q := by
  refine for_inv (fun ds ρ s => (∀ d ∈ ds, TT d) ∧ s = st ∧ ∃ y z, ρ = [x0, x1, x2, x3, x4, x5, y, z]) _ _ _ ⟨ht, rfl, y, z, hρ⟩ ?_ ?_
  · rintro ρ s ⟨_, rfl, y, z, rfl⟩
    exact q y z
  · rintro d ds ρ s ⟨hd, rfl, y, z, rfl⟩
    have t := hd d List.mem_cons_self
    have t1 := t.wt
    have t2 := t.dep
    have sh : d.showB = true := showB_of (M := MT) (by decide) t.fine (by omega) (by omega)
    have so : d.solid = true := (fine_ok (M := MT) (by decide) d t.fine).1
    obtain ⟨i, j, hi, hj, hr⟩ := both 20 d so (by omega)
    have e7 : ∀ st R, Go (cD 59 7 [d]) st R = R (.ok (.bl (decide (i ≤ 12))) st) := fun st R => is_tree (n := 33) fun st R => hi 33 st R
    have e18 : ∀ st R, Go (cD 59 18 [d]) st R = R (.ok (.int j) st) := fun st R => hj 34 st R
    refine ⟨_, rfl, ?_⟩
    (rw [gos_cons]; simp only [gos_nil, evS, ev, evs, mArgs, mAnds, mOrs, tAnds, tOrs, Sm.of, Sm.bl, Sm.it, mVar, mCon, conD, mCall, mPrim, mBin, mChain, mAndV, mOrV, mAndT, mOrT, mNotV, mNotT, mIf, mNil, mCons, mTup, mLst, mDic, mYes,
  List.map_cons, List.map_nil, List.cons_append, List.nil_append, List.replicate, List.length_cons, List.length_nil, List.getElem?_cons_zero, List.getElem?_cons_succ, Option.join_some, List.set_cons_zero, List.set_cons_succ, Nat.reduceAdd, Nat.reduceSub, Nat.zero_add, Nat.add_zero,
  gos_seq, gos_next, gos_brk, gos_ct, gos_retN, gos_if, gos_asg, gos_ret, gos_drop, gos_par, gos_for, gos_setIx, kR_ok, kS_ok, kQ_nx, kQ_rt, kQ_bk, kQ_ct, kQ_ex, kC_rt, kC_nx, kC_ex,
  go_ret, go_some, go_bind, go_add, go_sub, go_mul, go_mod, go_div, go_pow, go_shl, go_lt, go_le, go_gt, go_ge, go_eq, go_eqS, go_ne, go_neS, go_eqB, go_eqT0, go_bl, go_tru, go_ixT, go_ixL, go_ixR, go_lenT, go_lenL, go_lenR, go_listT, go_max2, go_min2, go_if, gos_ifB, ifB_t, ifB_f,
  atI0, atI1, atI2, M.opt_some, Option.map_some, Bool.not_true, Bool.not_false, mSlice, mPart0, mRev, go_part, go_neg, go_slT, go_revT, go_rng1, asg, exists_eq_left', Option.some.injEq, D.int.injEq, List.cons.injEq, and_true, true_and, go_repr d sh])
    (rw [gos_cons]; simp only [gos_nil, evS, ev, evs, mArgs, mAnds, mOrs, tAnds, tOrs, Sm.of, Sm.bl, Sm.it, mVar, mCon, conD, mCall, mPrim, mBin, mChain, mAndV, mOrV, mAndT, mOrT, mNotV, mNotT, mIf, mNil, mCons, mTup, mLst, mDic, mYes,
  List.map_cons, List.map_nil, List.cons_append, List.nil_append, List.replicate, List.length_cons, List.length_nil, List.getElem?_cons_zero, List.getElem?_cons_succ, Option.join_some, List.set_cons_zero, List.set_cons_succ, Nat.reduceAdd, Nat.reduceSub, Nat.zero_add, Nat.add_zero,
  gos_seq, gos_next, gos_brk, gos_ct, gos_retN, gos_if, gos_asg, gos_ret, gos_drop, gos_par, gos_for, gos_setIx, kR_ok, kS_ok, kQ_nx, kQ_rt, kQ_bk, kQ_ct, kQ_ex, kC_rt, kC_nx, kC_ex,
  go_ret, go_some, go_bind, go_add, go_sub, go_mul, go_mod, go_div, go_pow, go_shl, go_lt, go_le, go_gt, go_ge, go_eq, go_eqS, go_ne, go_neS, go_eqB, go_eqT0, go_bl, go_tru, go_ixT, go_ixL, go_ixR, go_lenT, go_lenL, go_lenR, go_listT, go_max2, go_min2, go_if, gos_ifB, ifB_t, ifB_f,
  atI0, atI1, atI2, M.opt_some, Option.map_some, Bool.not_true, Bool.not_false, mSlice, mPart0, mRev, go_part, go_neg, go_slT, go_revT, go_rng1, asg, exists_eq_left', Option.some.injEq, D.int.injEq, List.cons.injEq, and_true, true_and, cell0, e7, e18, go_repr _ (bl_show _), go_repr d sh])
    have e : decide (i ≤ 12) = decide (j < 13) := by
      rcases hr with ⟨h1, h2⟩ | ⟨h1, h2⟩
      · subst h1
        by_cases hh : i ≤ 12
        · rw [decide_eq_true hh, decide_eq_true (by omega)]
        · rw [decide_eq_false hh, decide_eq_false (by omega)]
      · rw [decide_eq_false (by omega), decide_eq_false (by omega)]
    simp only [gos_nil, evS, ev, evs, mArgs, mAnds, mOrs, tAnds, tOrs, Sm.of, Sm.bl, Sm.it, mVar, mCon, conD, mCall, mPrim, mBin, mChain, mAndV, mOrV, mAndT, mOrT, mNotV, mNotT, mIf, mNil, mCons, mTup, mLst, mDic, mYes,
  List.map_cons, List.map_nil, List.cons_append, List.nil_append, List.replicate, List.length_cons, List.length_nil, List.getElem?_cons_zero, List.getElem?_cons_succ, Option.join_some, List.set_cons_zero, List.set_cons_succ, Nat.reduceAdd, Nat.reduceSub, Nat.zero_add, Nat.add_zero,
  gos_seq, gos_next, gos_brk, gos_ct, gos_retN, gos_if, gos_asg, gos_ret, gos_drop, gos_par, gos_for, gos_setIx, kR_ok, kS_ok, kQ_nx, kQ_rt, kQ_bk, kQ_ct, kQ_ex, kC_rt, kC_nx, kC_ex,
  go_ret, go_some, go_bind, go_add, go_sub, go_mul, go_mod, go_div, go_pow, go_shl, go_lt, go_le, go_gt, go_ge, go_eq, go_eqS, go_ne, go_neS, go_eqB, go_eqT0, go_bl, go_tru, go_ixT, go_ixL, go_ixR, go_lenT, go_lenL, go_lenR, go_listT, go_max2, go_min2, go_if, gos_ifB, ifB_t, ifB_f,
  atI0, atI1, atI2, M.opt_some, Option.map_some, Bool.not_true, Bool.not_false, mSlice, mPart0, mRev, go_part, go_neg, go_slT, go_revT, go_rng1, asg, exists_eq_left', Option.some.injEq, D.int.injEq, List.cons.injEq, and_true, true_and, e, decide_true]
    refine ⟨fun d' h' => hd d' (List.mem_cons_of_mem _ h'), ?_⟩
    simp
theorem tt_add {a b : List D} (ha : ∀ d ∈ a, TT d) (hb : ∀ d ∈ b, TT d) : ∀ d ∈ a ++ b, TT d := fun d h => by
  rcases List.mem_append.mp h with h | h
  · exact ha d h
  · exact hb d h
theorem s_ok {x : Str} (h : (reprText x).length ≤ 90) : Th MT 1 0 (.str x) := th_str h
theorem i_ok {i : Int} (h : i.natAbs ≤ MT) : Th MT 1 0 (.int i) := th_int h
def L1 : List D := [.tup [.str "in", .int 0], .tup [.str "in", .int 3], .tup [.str "in", .int 4], .tup [.str "in", .int (-1)], .tup [.str "in", .bl true], .tup [.str "in"], .lst [.str "in", .int 0], .bl true, .non]
def L2' : List D := [.tup [.str "reg", .int 0], .tup [.str "cell", .int 1], .tup [.str "num", .str "a"], .tup [.str "stop"], .tup [.str "not"], .tup [.str "not", .int 1, .int 2], .tup [.str "add", .int 1]]
def L3 : List D := [.tup [.str "add", .int 1, .int 2, .int 3], .tup [.str "Add", .int 1, .int 2], .tup [.str "", .int 1, .int 2], .tup [.non, .int 1, .int 2], .tup [.str "in", .int 0, .int 1], .tup [.str "in", .str "0"]]
def L4 : List D := [.str "5", .tup []]
def ttB (d : D) : Bool := d.fine MT && (decide (d.wt ≤ 300) && decide (d.dep ≤ 20))
theorem tt_of {l : List D} (h : l.all ttB = true) : ∀ d ∈ l, TT d := fun d hd => by
  have := List.all_eq_true.mp h d hd
  unfold ttB at this
  obtain ⟨h1, h2⟩ := andB this
  obtain ⟨h2, h3⟩ := andB h2
  exact ⟨h1, of_decide_eq_true h2, of_decide_eq_true h3⟩
theorem t1 : ∀ d ∈ L1, TT d := tt_of (by decide +kernel)
theorem t2 : ∀ d ∈ L2', TT d := tt_of (by decide +kernel)
theorem t3 : ∀ d ∈ L3, TT d := tt_of (by decide +kernel)
theorem t4 : ∀ d ∈ L4, TT d := tt_of (by decide +kernel)
/-- sixteen turns of bent trees -/
theorem bents (things : List D) (ρ : Rho) (Q : SR → Prop) (x0 x1 : Option D) (tr : D) (y5 y6 y7 : Option D) (hp : PenAt p B st) (hB : B + 800 ≤ 1000000) (ht : ∀ d ∈ things, TT d) (hl : things.length ≤ 100) (t : Th 63 63 13 tr) (hρ : ρ = [x0, x1, some (.cell p), some tr, some (.lst things), y5, y6, y7])
    (q : ∀ things' y5 st', (∀ d ∈ things', TT d) → Q (.nx [x0, x1, some (.cell p), some tr, some (.lst things'), y5, y6, y7] st')) :
    GoS (forL (.nm 5) (evSs (callD T Γ.gl 59) Γ.gl [.asg (.nm 4) (.bin .Add (.var 4) (.lst [(.call 17 [(.var 2), (.var 3), (.con (.int 3))]), (.call 17 [(.var 2), (.call 17 [(.var 2), (.var 3), (.con (.int 3))]), (.con (.int 3))])]))]) (rangeL 0 16)) ρ st Q := by
  have len : (rangeL 0 16).length = 16 := by unfold rangeL; simp
  refine for_inv (fun ds ρ s => ds.length ≤ 16 ∧ PenAt p (B + 48 * ((16 - ds.length : Nat) : Int)) s ∧ ∃ th y5, (∀ d ∈ th, TT d) ∧ th.length + 2 * ds.length ≤ 140 ∧ ρ = [x0, x1, some (.cell p), some tr, some (.lst th), y5, y6, y7]) _ _ _ ⟨by omega, ?_, things, y5, ht, by omega, hρ⟩ ?_ ?_
  · rw [len]
    exact hp.mono (by omega)
  · rintro ρ s ⟨_, _, th, y5, h1, _, rfl⟩
    exact q th y5 s h1
  · rintro y ds ρ s ⟨h0, h1, th, y5, h2, h3, rfl⟩
    rw [List.length_cons] at h0 h1 h3
    refine ⟨_, rfl, ?_⟩
    have nn := hp.nn
    have hL2 : 2 ≤ LIM := by decide
    (rw [gos_cons]; simp only [gos_nil, evS, ev, evs, mArgs, mAnds, mOrs, tAnds, tOrs, Sm.of, Sm.bl, Sm.it, mVar, mCon, conD, mCall, mPrim, mBin, mChain, mAndV, mOrV, mAndT, mOrT, mNotV, mNotT, mIf, mNil, mCons, mTup, mLst, mDic, mYes,
  List.map_cons, List.map_nil, List.cons_append, List.nil_append, List.replicate, List.length_cons, List.length_nil, List.getElem?_cons_zero, List.getElem?_cons_succ, Option.join_some, List.set_cons_zero, List.set_cons_succ, Nat.reduceAdd, Nat.reduceSub, Nat.zero_add, Nat.add_zero,
  gos_seq, gos_next, gos_brk, gos_ct, gos_retN, gos_if, gos_asg, gos_ret, gos_drop, gos_par, gos_for, gos_setIx, kR_ok, kS_ok, kQ_nx, kQ_rt, kQ_bk, kQ_ct, kQ_ex, kC_rt, kC_nx, kC_ex,
  go_ret, go_some, go_bind, go_add, go_sub, go_mul, go_mod, go_div, go_pow, go_shl, go_lt, go_le, go_gt, go_ge, go_eq, go_eqS, go_ne, go_neS, go_eqB, go_eqT0, go_bl, go_tru, go_ixT, go_ixL, go_ixR, go_lenT, go_lenL, go_lenR, go_listT, go_max2, go_min2, go_if, gos_ifB, ifB_t, ifB_f,
  atI0, atI1, atI2, M.opt_some, Option.map_some, Bool.not_true, Bool.not_false, mSlice, mPart0, mRev, go_part, go_neg, go_slT, go_revT, go_rng1, asg, exists_eq_left', Option.some.injEq, D.int.injEq, List.cons.injEq, and_true, true_and, cell0])
    refine bent 3 53 p _ s _ MB 63 13 tr h1 (by omega) (t.mono (by decide) (Nat.le_refl _) (Nat.le_refl _)) (Nat.le_refl _) (by decide) (by omega) fun d1 s1 t1 h1 => ?_
    simp only [gos_nil, evS, ev, evs, mArgs, mAnds, mOrs, tAnds, tOrs, Sm.of, Sm.bl, Sm.it, mVar, mCon, conD, mCall, mPrim, mBin, mChain, mAndV, mOrV, mAndT, mOrT, mNotV, mNotT, mIf, mNil, mCons, mTup, mLst, mDic, mYes,
  List.map_cons, List.map_nil, List.cons_append, List.nil_append, List.replicate, List.length_cons, List.length_nil, List.getElem?_cons_zero, List.getElem?_cons_succ, Option.join_some, List.set_cons_zero, List.set_cons_succ, Nat.reduceAdd, Nat.reduceSub, Nat.zero_add, Nat.add_zero,
  gos_seq, gos_next, gos_brk, gos_ct, gos_retN, gos_if, gos_asg, gos_ret, gos_drop, gos_par, gos_for, gos_setIx, kR_ok, kS_ok, kQ_nx, kQ_rt, kQ_bk, kQ_ct, kQ_ex, kC_rt, kC_nx, kC_ex,
  go_ret, go_some, go_bind, go_add, go_sub, go_mul, go_mod, go_div, go_pow, go_shl, go_lt, go_le, go_gt, go_ge, go_eq, go_eqS, go_ne, go_neS, go_eqB, go_eqT0, go_bl, go_tru, go_ixT, go_ixL, go_ixR, go_lenT, go_lenL, go_lenR, go_listT, go_max2, go_min2, go_if, gos_ifB, ifB_t, ifB_f,
  atI0, atI1, atI2, M.opt_some, Option.map_some, Bool.not_true, Bool.not_false, mSlice, mPart0, mRev, go_part, go_neg, go_slT, go_revT, go_rng1, asg, exists_eq_left', Option.some.injEq, D.int.injEq, List.cons.injEq, and_true, true_and, cell0]
    refine bent 3 53 p _ s1 _ MB 63 13 tr h1 (by omega) (t.mono (by decide) (Nat.le_refl _) (Nat.le_refl _)) (Nat.le_refl _) (by decide) (by omega) fun d2 s2 t2 h2' => ?_
    simp only [gos_nil, evS, ev, evs, mArgs, mAnds, mOrs, tAnds, tOrs, Sm.of, Sm.bl, Sm.it, mVar, mCon, conD, mCall, mPrim, mBin, mChain, mAndV, mOrV, mAndT, mOrT, mNotV, mNotT, mIf, mNil, mCons, mTup, mLst, mDic, mYes,
  List.map_cons, List.map_nil, List.cons_append, List.nil_append, List.replicate, List.length_cons, List.length_nil, List.getElem?_cons_zero, List.getElem?_cons_succ, Option.join_some, List.set_cons_zero, List.set_cons_succ, Nat.reduceAdd, Nat.reduceSub, Nat.zero_add, Nat.add_zero,
  gos_seq, gos_next, gos_brk, gos_ct, gos_retN, gos_if, gos_asg, gos_ret, gos_drop, gos_par, gos_for, gos_setIx, kR_ok, kS_ok, kQ_nx, kQ_rt, kQ_bk, kQ_ct, kQ_ex, kC_rt, kC_nx, kC_ex,
  go_ret, go_some, go_bind, go_add, go_sub, go_mul, go_mod, go_div, go_pow, go_shl, go_lt, go_le, go_gt, go_ge, go_eq, go_eqS, go_ne, go_neS, go_eqB, go_eqT0, go_bl, go_tru, go_ixT, go_ixL, go_ixR, go_lenT, go_lenL, go_lenR, go_listT, go_max2, go_min2, go_if, gos_ifB, ifB_t, ifB_f,
  atI0, atI1, atI2, M.opt_some, Option.map_some, Bool.not_true, Bool.not_false, mSlice, mPart0, mRev, go_part, go_neg, go_slT, go_revT, go_rng1, asg, exists_eq_left', Option.some.injEq, D.int.injEq, List.cons.injEq, and_true, true_and, cell0]
    refine bent 3 53 p _ s2 _ _ _ _ d2 h2' (by omega) t2 (by decide) (by decide) (by omega) fun d3 s3 t3 h3' => ?_
    simp only [gos_nil, evS, ev, evs, mArgs, mAnds, mOrs, tAnds, tOrs, Sm.of, Sm.bl, Sm.it, mVar, mCon, conD, mCall, mPrim, mBin, mChain, mAndV, mOrV, mAndT, mOrT, mNotV, mNotT, mIf, mNil, mCons, mTup, mLst, mDic, mYes,
  List.map_cons, List.map_nil, List.cons_append, List.nil_append, List.replicate, List.length_cons, List.length_nil, List.getElem?_cons_zero, List.getElem?_cons_succ, Option.join_some, List.set_cons_zero, List.set_cons_succ, Nat.reduceAdd, Nat.reduceSub, Nat.zero_add, Nat.add_zero,
  gos_seq, gos_next, gos_brk, gos_ct, gos_retN, gos_if, gos_asg, gos_ret, gos_drop, gos_par, gos_for, gos_setIx, kR_ok, kS_ok, kQ_nx, kQ_rt, kQ_bk, kQ_ct, kQ_ex, kC_rt, kC_nx, kC_ex,
  go_ret, go_some, go_bind, go_add, go_sub, go_mul, go_mod, go_div, go_pow, go_shl, go_lt, go_le, go_gt, go_ge, go_eq, go_eqS, go_ne, go_neS, go_eqB, go_eqT0, go_bl, go_tru, go_ixT, go_ixL, go_ixR, go_lenT, go_lenL, go_lenR, go_listT, go_max2, go_min2, go_if, gos_ifB, ifB_t, ifB_f,
  atI0, atI1, atI2, M.opt_some, Option.map_some, Bool.not_true, Bool.not_false, mSlice, mPart0, mRev, go_part, go_neg, go_slT, go_revT, go_rng1, asg, exists_eq_left', Option.some.injEq, D.int.injEq, List.cons.injEq, and_true, true_and, hL2, if_true, go_addL]
    refine ⟨by unfold LIM; omega, by omega, h3'.mono (by omega), ?_⟩
    refine ⟨_, _, tt_add h2 fun d hd => ?_, ?_, rfl, rfl⟩
    · simp only [List.mem_cons, List.not_mem_nil, or_false] at hd
      rcases hd with rfl | rfl
      · exact t1.mono (by decide) (by omega) (by omega)
      · exact t3.mono (by decide) (by omega) (by omega)
    · rw [List.length_append]
      simp only [List.length_cons, List.length_nil]
      omega
abbrev bodyR : List S := [.asg (.nm 2) (.call 9 [(.call 8 [(.var 0), (.var 1)])]), .asg (.nm 3) (.call 16 [(.var 2), (.con (.int 6)), (.con (.int 4)), (.call 10 [(.var 2), (.con (.int 13))])]), .asg (.nm 4) (.lst [(.var 3), (.tup [(.con (.str "not")), (.var 3)]), (.tup [(.con (.str "times")), (.var 3), (.var 3)]), (.call 19 [(.var 2), (.con (.int 12))]), (.call 19 [(.var 2), (.con (.int 13))]), (.con (.int 0)), (.con (.int 63)), (.con (.int 64)), (.neg (.con (.int 1)))]), .asg (.nm 4) (.bin .Add (.var 4) (.lst [(.tup [(.con (.str "in")), (.con (.int 0))]), (.tup [(.con (.str "in")), (.con (.int 3))]), (.tup [(.con (.str "in")), (.con (.int 4))]), (.tup [(.con (.str "in")), (.neg (.con (.int 1)))]), (.tup [(.con (.str "in")), (.con (.bool true))]), (.tup [(.con (.str "in"))]), (.lst [(.con (.str "in")), (.con (.int 0))]), (.con (.bool true)), (.con .none)])), .asg (.nm 4) (.bin .Add (.var 4) (.lst [(.tup [(.con (.str "reg")), (.con (.int 0))]), (.tup [(.con (.str "cell")), (.con (.int 1))]), (.tup [(.con (.str "num")), (.con (.str "a"))]), (.tup [(.con (.str "stop"))]), (.tup [(.con (.str "not"))]), (.tup [(.con (.str "not")), (.con (.int 1)), (.con (.int 2))]), (.tup [(.con (.str "add")), (.con (.int 1))])])), .asg (.nm 4) (.bin .Add (.var 4) (.lst [(.tup [(.con (.str "add")), (.con (.int 1)), (.con (.int 2)), (.con (.int 3))]), (.tup [(.con (.str "Add")), (.con (.int 1)), (.con (.int 2))]), (.tup [(.con (.str "")), (.con (.int 1)), (.con (.int 2))]), (.tup [(.con .none), (.con (.int 1)), (.con (.int 2))]), (.tup [(.con (.str "in")), (.con (.int 0)), (.con (.int 1))]), (.tup [(.con (.str "in")), (.con (.str "0"))])])), .asg (.nm 4) (.bin .Add (.var 4) (.lst [(.con (.str "5")), (.tup [])])), .for (.nm 5) (.rng1 (.con (.int 16))) [.asg (.nm 4) (.bin .Add (.var 4) (.lst [(.call 17 [(.var 2), (.var 3), (.con (.int 3))]), (.call 17 [(.var 2), (.call 17 [(.var 2), (.var 3), (.con (.int 3))]), (.con (.int 3))])]))], .for (.nm 6) (.var 4) [.asg (.nm 7) (.prim .repr [(.var 6)]), .ife (.or [(.cmp .NotEq (.prim .repr [(.call 7 [(.var 6)])]) (.prim .repr [(.cmp .Lt (.call 18 [(.var 6)]) (.con (.int 13)))])), (.cmp .NotEq (.prim .repr [(.var 6)]) (.var 7))]) [.ret (.con (.bool false))] []]]
theorem go_itL {st : Sto} {R : Res (List D) → Prop} (l : List D) : Go (itS (.lst l)) st R = R (.ok l st) := go_fun rfl
theorem round (ns : List Int) (k : Int) (hk : 0 ≤ k) (y2 y3 y4 y5 y6 y7 : Option D) (Q : SR → Prop) (q : ∀ y2 y3 y4 y5 y6 y7 st', Q (.nx [some (.ro (ns.map .int)), some (.int k), y2, y3, y4, y5, y6, y7] st')) :
    GoS (evSs (callD T Γ.gl 59) Γ.gl bodyR) [some (.ro (ns.map .int)), some (.int k), y2, y3, y4, y5, y6, y7] st Q := by
  have hL : ∀ x, x ≤ 200 → x ≤ LIM := fun x hx => by unfold LIM; omega
  have h0 : 0 ≤ LIM := hL _ (by omega)
  have h1 : 1 ≤ LIM := hL _ (by omega)
  have h2 : 2 ≤ LIM := hL _ (by omega)
  have h3 : 3 ≤ LIM := hL _ (by omega)
  have h4 : 4 ≤ LIM := hL _ (by omega)
  have h6 : 6 ≤ LIM := hL _ (by omega)
  have h7 : 7 ≤ LIM := hL _ (by omega)
  have h9 : 9 ≤ LIM := hL _ (by omega)
  unfold bodyR
  (rw [gos_cons]; simp only [gos_nil, evS, ev, evs, mArgs, mAnds, mOrs, tAnds, tOrs, Sm.of, Sm.bl, Sm.it, mVar, mCon, conD, mCall, mPrim, mBin, mChain, mAndV, mOrV, mAndT, mOrT, mNotV, mNotT, mIf, mNil, mCons, mTup, mLst, mDic, mYes,
  List.map_cons, List.map_nil, List.cons_append, List.nil_append, List.replicate, List.length_cons, List.length_nil, List.getElem?_cons_zero, List.getElem?_cons_succ, Option.join_some, List.set_cons_zero, List.set_cons_succ, Nat.reduceAdd, Nat.reduceSub, Nat.zero_add, Nat.add_zero,
  gos_seq, gos_next, gos_brk, gos_ct, gos_retN, gos_if, gos_asg, gos_ret, gos_drop, gos_par, gos_for, gos_setIx, kR_ok, kS_ok, kQ_nx, kQ_rt, kQ_bk, kQ_ct, kQ_ex, kC_rt, kC_nx, kC_ex,
  go_ret, go_some, go_bind, go_add, go_sub, go_mul, go_mod, go_div, go_pow, go_shl, go_lt, go_le, go_gt, go_ge, go_eq, go_eqS, go_ne, go_neS, go_eqB, go_eqT0, go_bl, go_tru, go_ixT, go_ixL, go_ixR, go_lenT, go_lenL, go_lenR, go_listT, go_max2, go_min2, go_if, gos_ifB, ifB_t, ifB_f,
  atI0, atI1, atI2, M.opt_some, Option.map_some, Bool.not_true, Bool.not_false, mSlice, mPart0, mRev, go_part, go_neg, go_slT, go_revT, go_rng1, asg, exists_eq_left', Option.some.injEq, D.int.injEq, List.cons.injEq, and_true, true_and, cell0])
  refine cell_at (n := 58) hk fun z => ?_
  simp only [gos_nil, evS, ev, evs, mArgs, mAnds, mOrs, tAnds, tOrs, Sm.of, Sm.bl, Sm.it, mVar, mCon, conD, mCall, mPrim, mBin, mChain, mAndV, mOrV, mAndT, mOrT, mNotV, mNotT, mIf, mNil, mCons, mTup, mLst, mDic, mYes,
  List.map_cons, List.map_nil, List.cons_append, List.nil_append, List.replicate, List.length_cons, List.length_nil, List.getElem?_cons_zero, List.getElem?_cons_succ, Option.join_some, List.set_cons_zero, List.set_cons_succ, Nat.reduceAdd, Nat.reduceSub, Nat.zero_add, Nat.add_zero,
  gos_seq, gos_next, gos_brk, gos_ct, gos_retN, gos_if, gos_asg, gos_ret, gos_drop, gos_par, gos_for, gos_setIx, kR_ok, kS_ok, kQ_nx, kQ_rt, kQ_bk, kQ_ct, kQ_ex, kC_rt, kC_nx, kC_ex,
  go_ret, go_some, go_bind, go_add, go_sub, go_mul, go_mod, go_div, go_pow, go_shl, go_lt, go_le, go_gt, go_ge, go_eq, go_eqS, go_ne, go_neS, go_eqB, go_eqT0, go_bl, go_tru, go_ixT, go_ixL, go_ixR, go_lenT, go_lenL, go_lenR, go_listT, go_max2, go_min2, go_if, gos_ifB, ifB_t, ifB_f,
  atI0, atI1, atI2, M.opt_some, Option.map_some, Bool.not_true, Bool.not_false, mSlice, mPart0, mRev, go_part, go_neg, go_slT, go_revT, go_rng1, asg, exists_eq_left', Option.some.injEq, D.int.injEq, List.cons.injEq, and_true, true_and, cell0]
  refine pen (n := 58) fun p s1 p1 => ?_
  simp only [gos_nil, evS, ev, evs, mArgs, mAnds, mOrs, tAnds, tOrs, Sm.of, Sm.bl, Sm.it, mVar, mCon, conD, mCall, mPrim, mBin, mChain, mAndV, mOrV, mAndT, mOrT, mNotV, mNotT, mIf, mNil, mCons, mTup, mLst, mDic, mYes,
  List.map_cons, List.map_nil, List.cons_append, List.nil_append, List.replicate, List.length_cons, List.length_nil, List.getElem?_cons_zero, List.getElem?_cons_succ, Option.join_some, List.set_cons_zero, List.set_cons_succ, Nat.reduceAdd, Nat.reduceSub, Nat.zero_add, Nat.add_zero,
  gos_seq, gos_next, gos_brk, gos_ct, gos_retN, gos_if, gos_asg, gos_ret, gos_drop, gos_par, gos_for, gos_setIx, kR_ok, kS_ok, kQ_nx, kQ_rt, kQ_bk, kQ_ct, kQ_ex, kC_rt, kC_nx, kC_ex,
  go_ret, go_some, go_bind, go_add, go_sub, go_mul, go_mod, go_div, go_pow, go_shl, go_lt, go_le, go_gt, go_ge, go_eq, go_eqS, go_ne, go_neS, go_eqB, go_eqT0, go_bl, go_tru, go_ixT, go_ixL, go_ixR, go_lenT, go_lenL, go_lenR, go_listT, go_max2, go_min2, go_if, gos_ifB, ifB_t, ifB_f,
  atI0, atI1, atI2, M.opt_some, Option.map_some, Bool.not_true, Bool.not_false, mSlice, mPart0, mRev, go_part, go_neg, go_slT, go_revT, go_rng1, asg, exists_eq_left', Option.some.injEq, D.int.injEq, List.cons.injEq, and_true, true_and]
  (rw [gos_cons]; simp only [gos_nil, evS, ev, evs, mArgs, mAnds, mOrs, tAnds, tOrs, Sm.of, Sm.bl, Sm.it, mVar, mCon, conD, mCall, mPrim, mBin, mChain, mAndV, mOrV, mAndT, mOrT, mNotV, mNotT, mIf, mNil, mCons, mTup, mLst, mDic, mYes,
  List.map_cons, List.map_nil, List.cons_append, List.nil_append, List.replicate, List.length_cons, List.length_nil, List.getElem?_cons_zero, List.getElem?_cons_succ, Option.join_some, List.set_cons_zero, List.set_cons_succ, Nat.reduceAdd, Nat.reduceSub, Nat.zero_add, Nat.add_zero,
  gos_seq, gos_next, gos_brk, gos_ct, gos_retN, gos_if, gos_asg, gos_ret, gos_drop, gos_par, gos_for, gos_setIx, kR_ok, kS_ok, kQ_nx, kQ_rt, kQ_bk, kQ_ct, kQ_ex, kC_rt, kC_nx, kC_ex,
  go_ret, go_some, go_bind, go_add, go_sub, go_mul, go_mod, go_div, go_pow, go_shl, go_lt, go_le, go_gt, go_ge, go_eq, go_eqS, go_ne, go_neS, go_eqB, go_eqT0, go_bl, go_tru, go_ixT, go_ixL, go_ixR, go_lenT, go_lenL, go_lenR, go_listT, go_max2, go_min2, go_if, gos_ifB, ifB_t, ifB_f,
  atI0, atI1, atI2, M.opt_some, Option.map_some, Bool.not_true, Bool.not_false, mSlice, mPart0, mRev, go_part, go_neg, go_slT, go_revT, go_rng1, asg, exists_eq_left', Option.some.injEq, D.int.injEq, List.cons.injEq, and_true, true_and, cell0])
  refine draw (n := 58) p1 (by omega) (by omega) (by omega) fun r s2 a2 b2 p2 => ?_
  obtain ⟨l, rfl⟩ := nat_of a2
  have hl : l ≤ 12 := by omega
  simp only [gos_nil, evS, ev, evs, mArgs, mAnds, mOrs, tAnds, tOrs, Sm.of, Sm.bl, Sm.it, mVar, mCon, conD, mCall, mPrim, mBin, mChain, mAndV, mOrV, mAndT, mOrT, mNotV, mNotT, mIf, mNil, mCons, mTup, mLst, mDic, mYes,
  List.map_cons, List.map_nil, List.cons_append, List.nil_append, List.replicate, List.length_cons, List.length_nil, List.getElem?_cons_zero, List.getElem?_cons_succ, Option.join_some, List.set_cons_zero, List.set_cons_succ, Nat.reduceAdd, Nat.reduceSub, Nat.zero_add, Nat.add_zero,
  gos_seq, gos_next, gos_brk, gos_ct, gos_retN, gos_if, gos_asg, gos_ret, gos_drop, gos_par, gos_for, gos_setIx, kR_ok, kS_ok, kQ_nx, kQ_rt, kQ_bk, kQ_ct, kQ_ex, kC_rt, kC_nx, kC_ex,
  go_ret, go_some, go_bind, go_add, go_sub, go_mul, go_mod, go_div, go_pow, go_shl, go_lt, go_le, go_gt, go_ge, go_eq, go_eqS, go_ne, go_neS, go_eqB, go_eqT0, go_bl, go_tru, go_ixT, go_ixL, go_ixR, go_lenT, go_lenL, go_lenR, go_listT, go_max2, go_min2, go_if, gos_ifB, ifB_t, ifB_f,
  atI0, atI1, atI2, M.opt_some, Option.map_some, Bool.not_true, Bool.not_false, mSlice, mPart0, mRev, go_part, go_neg, go_slT, go_revT, go_rng1, asg, exists_eq_left', Option.some.injEq, D.int.injEq, List.cons.injEq, and_true, true_and, cell0]
  rw [show (59 : Nat) = (56 - l) + l + 3 by omega]
  refine tree l (56 - l) p _ s2 _ p2 (by omega) fun tr s3 t p3 => ?_
  rw [show (56 - l) + l + 3 = (59 : Nat) by omega]
  have t : Th 63 63 13 tr := t.mono (Nat.le_refl _) (by omega) (by omega)
  have p3 : PenAt p 126 s3 := p3.mono (by omega)
  simp only [gos_nil, evS, ev, evs, mArgs, mAnds, mOrs, tAnds, tOrs, Sm.of, Sm.bl, Sm.it, mVar, mCon, conD, mCall, mPrim, mBin, mChain, mAndV, mOrV, mAndT, mOrT, mNotV, mNotT, mIf, mNil, mCons, mTup, mLst, mDic, mYes,
  List.map_cons, List.map_nil, List.cons_append, List.nil_append, List.replicate, List.length_cons, List.length_nil, List.getElem?_cons_zero, List.getElem?_cons_succ, Option.join_some, List.set_cons_zero, List.set_cons_succ, Nat.reduceAdd, Nat.reduceSub, Nat.zero_add, Nat.add_zero,
  gos_seq, gos_next, gos_brk, gos_ct, gos_retN, gos_if, gos_asg, gos_ret, gos_drop, gos_par, gos_for, gos_setIx, kR_ok, kS_ok, kQ_nx, kQ_rt, kQ_bk, kQ_ct, kQ_ex, kC_rt, kC_nx, kC_ex,
  go_ret, go_some, go_bind, go_add, go_sub, go_mul, go_mod, go_div, go_pow, go_shl, go_lt, go_le, go_gt, go_ge, go_eq, go_eqS, go_ne, go_neS, go_eqB, go_eqT0, go_bl, go_tru, go_ixT, go_ixL, go_ixR, go_lenT, go_lenL, go_lenR, go_listT, go_max2, go_min2, go_if, gos_ifB, ifB_t, ifB_f,
  atI0, atI1, atI2, M.opt_some, Option.map_some, Bool.not_true, Bool.not_false, mSlice, mPart0, mRev, go_part, go_neg, go_slT, go_revT, go_rng1, asg, exists_eq_left', Option.some.injEq, D.int.injEq, List.cons.injEq, and_true, true_and]
  (rw [gos_cons]; simp only [gos_nil, evS, ev, evs, mArgs, mAnds, mOrs, tAnds, tOrs, Sm.of, Sm.bl, Sm.it, mVar, mCon, conD, mCall, mPrim, mBin, mChain, mAndV, mOrV, mAndT, mOrT, mNotV, mNotT, mIf, mNil, mCons, mTup, mLst, mDic, mYes,
  List.map_cons, List.map_nil, List.cons_append, List.nil_append, List.replicate, List.length_cons, List.length_nil, List.getElem?_cons_zero, List.getElem?_cons_succ, Option.join_some, List.set_cons_zero, List.set_cons_succ, Nat.reduceAdd, Nat.reduceSub, Nat.zero_add, Nat.add_zero,
  gos_seq, gos_next, gos_brk, gos_ct, gos_retN, gos_if, gos_asg, gos_ret, gos_drop, gos_par, gos_for, gos_setIx, kR_ok, kS_ok, kQ_nx, kQ_rt, kQ_bk, kQ_ct, kQ_ex, kC_rt, kC_nx, kC_ex,
  go_ret, go_some, go_bind, go_add, go_sub, go_mul, go_mod, go_div, go_pow, go_shl, go_lt, go_le, go_gt, go_ge, go_eq, go_eqS, go_ne, go_neS, go_eqB, go_eqT0, go_bl, go_tru, go_ixT, go_ixL, go_ixR, go_lenT, go_lenL, go_lenR, go_listT, go_max2, go_min2, go_if, gos_ifB, ifB_t, ifB_f,
  atI0, atI1, atI2, M.opt_some, Option.map_some, Bool.not_true, Bool.not_false, mSlice, mPart0, mRev, go_part, go_neg, go_slT, go_revT, go_rng1, asg, exists_eq_left', Option.some.injEq, D.int.injEq, List.cons.injEq, and_true, true_and, h2, h3, if_true, cell0])
  refine long 12 p3 (by omega) (by omega) fun g1 s4 u1 p4 => ?_
  simp only [gos_nil, evS, ev, evs, mArgs, mAnds, mOrs, tAnds, tOrs, Sm.of, Sm.bl, Sm.it, mVar, mCon, conD, mCall, mPrim, mBin, mChain, mAndV, mOrV, mAndT, mOrT, mNotV, mNotT, mIf, mNil, mCons, mTup, mLst, mDic, mYes,
  List.map_cons, List.map_nil, List.cons_append, List.nil_append, List.replicate, List.length_cons, List.length_nil, List.getElem?_cons_zero, List.getElem?_cons_succ, Option.join_some, List.set_cons_zero, List.set_cons_succ, Nat.reduceAdd, Nat.reduceSub, Nat.zero_add, Nat.add_zero,
  gos_seq, gos_next, gos_brk, gos_ct, gos_retN, gos_if, gos_asg, gos_ret, gos_drop, gos_par, gos_for, gos_setIx, kR_ok, kS_ok, kQ_nx, kQ_rt, kQ_bk, kQ_ct, kQ_ex, kC_rt, kC_nx, kC_ex,
  go_ret, go_some, go_bind, go_add, go_sub, go_mul, go_mod, go_div, go_pow, go_shl, go_lt, go_le, go_gt, go_ge, go_eq, go_eqS, go_ne, go_neS, go_eqB, go_eqT0, go_bl, go_tru, go_ixT, go_ixL, go_ixR, go_lenT, go_lenL, go_lenR, go_listT, go_max2, go_min2, go_if, gos_ifB, ifB_t, ifB_f,
  atI0, atI1, atI2, M.opt_some, Option.map_some, Bool.not_true, Bool.not_false, mSlice, mPart0, mRev, go_part, go_neg, go_slT, go_revT, go_rng1, asg, exists_eq_left', Option.some.injEq, D.int.injEq, List.cons.injEq, and_true, true_and, cell0]
  refine long 13 p4 (by omega) (by omega) fun g2 s5 u2 p5 => ?_
  simp only [gos_nil, evS, ev, evs, mArgs, mAnds, mOrs, tAnds, tOrs, Sm.of, Sm.bl, Sm.it, mVar, mCon, conD, mCall, mPrim, mBin, mChain, mAndV, mOrV, mAndT, mOrT, mNotV, mNotT, mIf, mNil, mCons, mTup, mLst, mDic, mYes,
  List.map_cons, List.map_nil, List.cons_append, List.nil_append, List.replicate, List.length_cons, List.length_nil, List.getElem?_cons_zero, List.getElem?_cons_succ, Option.join_some, List.set_cons_zero, List.set_cons_succ, Nat.reduceAdd, Nat.reduceSub, Nat.zero_add, Nat.add_zero,
  gos_seq, gos_next, gos_brk, gos_ct, gos_retN, gos_if, gos_asg, gos_ret, gos_drop, gos_par, gos_for, gos_setIx, kR_ok, kS_ok, kQ_nx, kQ_rt, kQ_bk, kQ_ct, kQ_ex, kC_rt, kC_nx, kC_ex,
  go_ret, go_some, go_bind, go_add, go_sub, go_mul, go_mod, go_div, go_pow, go_shl, go_lt, go_le, go_gt, go_ge, go_eq, go_eqS, go_ne, go_neS, go_eqB, go_eqT0, go_bl, go_tru, go_ixT, go_ixL, go_ixR, go_lenT, go_lenL, go_lenR, go_listT, go_max2, go_min2, go_if, gos_ifB, ifB_t, ifB_f,
  atI0, atI1, atI2, M.opt_some, Option.map_some, Bool.not_true, Bool.not_false, mSlice, mPart0, mRev, go_part, go_neg, go_slT, go_revT, go_rng1, asg, exists_eq_left', Option.some.injEq, D.int.injEq, List.cons.injEq, and_true, true_and, h9, if_true]
  have ht : ∀ d ∈ [tr, .tup [.str "not", tr], .tup [.str "times", tr, tr], g1, g2, .int 0, .int 63, .int 64, .int (-1)], TT d := fun d hd => by
    simp only [List.mem_cons, List.not_mem_nil, or_false] at hd
    rcases hd with rfl | rfl | rfl | rfl | rfl | rfl | rfl | rfl | rfl
    · exact t.mono (by decide) (by omega) (by omega)
    · exact (th_t2 (th_str (by decide +kernel)) t).mono (by decide) (by omega) (by omega)
    · exact (th_t3 (th_str (by decide +kernel)) t t).mono (by decide) (by omega) (by omega)
    · exact u1.mono (by decide) (by omega) (by omega)
    · exact u2.mono (by decide) (by omega) (by omega)
    · exact (i_ok (by decide)).mono (by decide) (by omega) (by omega)
    · exact (i_ok (by decide)).mono (by decide) (by omega) (by omega)
    · exact (i_ok (by decide)).mono (by decide) (by omega) (by omega)
    · exact (i_ok (by decide)).mono (by decide) (by omega) (by omega)
  have hn : ([tr, .tup [.str "not", tr], .tup [.str "times", tr, tr], g1, g2, .int 0, .int 63, .int 64, .int (-1)] : List D).length = 9 := rfl
  generalize ([tr, .tup [.str "not", tr], .tup [.str "times", tr, tr], g1, g2, .int 0, .int 63, .int 64, .int (-1)] : List D) = th at ht hn ⊢
  (rw [gos_cons]; simp only [gos_nil, evS, ev, evs, mArgs, mAnds, mOrs, tAnds, tOrs, Sm.of, Sm.bl, Sm.it, mVar, mCon, conD, mCall, mPrim, mBin, mChain, mAndV, mOrV, mAndT, mOrT, mNotV, mNotT, mIf, mNil, mCons, mTup, mLst, mDic, mYes,
  List.map_cons, List.map_nil, List.cons_append, List.nil_append, List.replicate, List.length_cons, List.length_nil, List.getElem?_cons_zero, List.getElem?_cons_succ, Option.join_some, List.set_cons_zero, List.set_cons_succ, Nat.reduceAdd, Nat.reduceSub, Nat.zero_add, Nat.add_zero,
  gos_seq, gos_next, gos_brk, gos_ct, gos_retN, gos_if, gos_asg, gos_ret, gos_drop, gos_par, gos_for, gos_setIx, kR_ok, kS_ok, kQ_nx, kQ_rt, kQ_bk, kQ_ct, kQ_ex, kC_rt, kC_nx, kC_ex,
  go_ret, go_some, go_bind, go_add, go_sub, go_mul, go_mod, go_div, go_pow, go_shl, go_lt, go_le, go_gt, go_ge, go_eq, go_eqS, go_ne, go_neS, go_eqB, go_eqT0, go_bl, go_tru, go_ixT, go_ixL, go_ixR, go_lenT, go_lenL, go_lenR, go_listT, go_max2, go_min2, go_if, gos_ifB, ifB_t, ifB_f,
  atI0, atI1, atI2, M.opt_some, Option.map_some, Bool.not_true, Bool.not_false, mSlice, mPart0, mRev, go_part, go_neg, go_slT, go_revT, go_rng1, asg, exists_eq_left', Option.some.injEq, D.int.injEq, List.cons.injEq, and_true, true_and, h1, h2, h9, if_true, go_addL])
  refine ⟨hL _ (by omega), ?_⟩
  (rw [gos_cons]; simp only [gos_nil, evS, ev, evs, mArgs, mAnds, mOrs, tAnds, tOrs, Sm.of, Sm.bl, Sm.it, mVar, mCon, conD, mCall, mPrim, mBin, mChain, mAndV, mOrV, mAndT, mOrT, mNotV, mNotT, mIf, mNil, mCons, mTup, mLst, mDic, mYes,
  List.map_cons, List.map_nil, List.cons_append, List.nil_append, List.replicate, List.length_cons, List.length_nil, List.getElem?_cons_zero, List.getElem?_cons_succ, Option.join_some, List.set_cons_zero, List.set_cons_succ, Nat.reduceAdd, Nat.reduceSub, Nat.zero_add, Nat.add_zero,
  gos_seq, gos_next, gos_brk, gos_ct, gos_retN, gos_if, gos_asg, gos_ret, gos_drop, gos_par, gos_for, gos_setIx, kR_ok, kS_ok, kQ_nx, kQ_rt, kQ_bk, kQ_ct, kQ_ex, kC_rt, kC_nx, kC_ex,
  go_ret, go_some, go_bind, go_add, go_sub, go_mul, go_mod, go_div, go_pow, go_shl, go_lt, go_le, go_gt, go_ge, go_eq, go_eqS, go_ne, go_neS, go_eqB, go_eqT0, go_bl, go_tru, go_ixT, go_ixL, go_ixR, go_lenT, go_lenL, go_lenR, go_listT, go_max2, go_min2, go_if, gos_ifB, ifB_t, ifB_f,
  atI0, atI1, atI2, M.opt_some, Option.map_some, Bool.not_true, Bool.not_false, mSlice, mPart0, mRev, go_part, go_neg, go_slT, go_revT, go_rng1, asg, exists_eq_left', Option.some.injEq, D.int.injEq, List.cons.injEq, and_true, true_and, h1, h2, h3, h7, if_true, go_addL, List.length_append])
  refine ⟨hL _ (by omega), ?_⟩
  (rw [gos_cons]; simp only [gos_nil, evS, ev, evs, mArgs, mAnds, mOrs, tAnds, tOrs, Sm.of, Sm.bl, Sm.it, mVar, mCon, conD, mCall, mPrim, mBin, mChain, mAndV, mOrV, mAndT, mOrT, mNotV, mNotT, mIf, mNil, mCons, mTup, mLst, mDic, mYes,
  List.map_cons, List.map_nil, List.cons_append, List.nil_append, List.replicate, List.length_cons, List.length_nil, List.getElem?_cons_zero, List.getElem?_cons_succ, Option.join_some, List.set_cons_zero, List.set_cons_succ, Nat.reduceAdd, Nat.reduceSub, Nat.zero_add, Nat.add_zero,
  gos_seq, gos_next, gos_brk, gos_ct, gos_retN, gos_if, gos_asg, gos_ret, gos_drop, gos_par, gos_for, gos_setIx, kR_ok, kS_ok, kQ_nx, kQ_rt, kQ_bk, kQ_ct, kQ_ex, kC_rt, kC_nx, kC_ex,
  go_ret, go_some, go_bind, go_add, go_sub, go_mul, go_mod, go_div, go_pow, go_shl, go_lt, go_le, go_gt, go_ge, go_eq, go_eqS, go_ne, go_neS, go_eqB, go_eqT0, go_bl, go_tru, go_ixT, go_ixL, go_ixR, go_lenT, go_lenL, go_lenR, go_listT, go_max2, go_min2, go_if, gos_ifB, ifB_t, ifB_f,
  atI0, atI1, atI2, M.opt_some, Option.map_some, Bool.not_true, Bool.not_false, mSlice, mPart0, mRev, go_part, go_neg, go_slT, go_revT, go_rng1, asg, exists_eq_left', Option.some.injEq, D.int.injEq, List.cons.injEq, and_true, true_and, h2, h3, h4, h6, if_true, go_addL, List.length_append])
  refine ⟨hL _ (by omega), ?_⟩
  (rw [gos_cons]; simp only [gos_nil, evS, ev, evs, mArgs, mAnds, mOrs, tAnds, tOrs, Sm.of, Sm.bl, Sm.it, mVar, mCon, conD, mCall, mPrim, mBin, mChain, mAndV, mOrV, mAndT, mOrT, mNotV, mNotT, mIf, mNil, mCons, mTup, mLst, mDic, mYes,
  List.map_cons, List.map_nil, List.cons_append, List.nil_append, List.replicate, List.length_cons, List.length_nil, List.getElem?_cons_zero, List.getElem?_cons_succ, Option.join_some, List.set_cons_zero, List.set_cons_succ, Nat.reduceAdd, Nat.reduceSub, Nat.zero_add, Nat.add_zero,
  gos_seq, gos_next, gos_brk, gos_ct, gos_retN, gos_if, gos_asg, gos_ret, gos_drop, gos_par, gos_for, gos_setIx, kR_ok, kS_ok, kQ_nx, kQ_rt, kQ_bk, kQ_ct, kQ_ex, kC_rt, kC_nx, kC_ex,
  go_ret, go_some, go_bind, go_add, go_sub, go_mul, go_mod, go_div, go_pow, go_shl, go_lt, go_le, go_gt, go_ge, go_eq, go_eqS, go_ne, go_neS, go_eqB, go_eqT0, go_bl, go_tru, go_ixT, go_ixL, go_ixR, go_lenT, go_lenL, go_lenR, go_listT, go_max2, go_min2, go_if, gos_ifB, ifB_t, ifB_f,
  atI0, atI1, atI2, M.opt_some, Option.map_some, Bool.not_true, Bool.not_false, mSlice, mPart0, mRev, go_part, go_neg, go_slT, go_revT, go_rng1, asg, exists_eq_left', Option.some.injEq, D.int.injEq, List.cons.injEq, and_true, true_and, h0, h2, if_true, go_addL, List.length_append])
  refine ⟨hL _ (by omega), ?_⟩
  (rw [gos_cons]; simp only [gos_nil, evS, ev, evs, mArgs, mAnds, mOrs, tAnds, tOrs, Sm.of, Sm.bl, Sm.it, mVar, mCon, conD, mCall, mPrim, mBin, mChain, mAndV, mOrV, mAndT, mOrT, mNotV, mNotT, mIf, mNil, mCons, mTup, mLst, mDic, mYes,
  List.map_cons, List.map_nil, List.cons_append, List.nil_append, List.replicate, List.length_cons, List.length_nil, List.getElem?_cons_zero, List.getElem?_cons_succ, Option.join_some, List.set_cons_zero, List.set_cons_succ, Nat.reduceAdd, Nat.reduceSub, Nat.zero_add, Nat.add_zero,
  gos_seq, gos_next, gos_brk, gos_ct, gos_retN, gos_if, gos_asg, gos_ret, gos_drop, gos_par, gos_for, gos_setIx, kR_ok, kS_ok, kQ_nx, kQ_rt, kQ_bk, kQ_ct, kQ_ex, kC_rt, kC_nx, kC_ex,
  go_ret, go_some, go_bind, go_add, go_sub, go_mul, go_mod, go_div, go_pow, go_shl, go_lt, go_le, go_gt, go_ge, go_eq, go_eqS, go_ne, go_neS, go_eqB, go_eqT0, go_bl, go_tru, go_ixT, go_ixL, go_ixR, go_lenT, go_lenL, go_lenR, go_listT, go_max2, go_min2, go_if, gos_ifB, ifB_t, ifB_f,
  atI0, atI1, atI2, M.opt_some, Option.map_some, Bool.not_true, Bool.not_false, mSlice, mPart0, mRev, go_part, go_neg, go_slT, go_revT, go_rng1, asg, exists_eq_left', Option.some.injEq, D.int.injEq, List.cons.injEq, and_true, true_and])
  refine ⟨by omega, ?_⟩
  refine bents _ _ _ (some (.ro (ns.map .int))) (some (.int k)) tr y5 y6 y7 p5 (by omega) (tt_add (tt_add (tt_add (tt_add ht t1) t2) t3) t4) ?_ t rfl fun th' y5 s6 ht' => ?_
  · have n1 : L1.length = 9 := rfl
    have n2 : L2'.length = 7 := rfl
    have n3 : L3.length = 6 := rfl
    have n4 : L4.length = 2 := rfl
    simp only [List.length_append]
    omega
  · simp only [gos_nil, evS, ev, evs, mArgs, mAnds, mOrs, tAnds, tOrs, Sm.of, Sm.bl, Sm.it, mVar, mCon, conD, mCall, mPrim, mBin, mChain, mAndV, mOrV, mAndT, mOrT, mNotV, mNotT, mIf, mNil, mCons, mTup, mLst, mDic, mYes,
  List.map_cons, List.map_nil, List.cons_append, List.nil_append, List.replicate, List.length_cons, List.length_nil, List.getElem?_cons_zero, List.getElem?_cons_succ, Option.join_some, List.set_cons_zero, List.set_cons_succ, Nat.reduceAdd, Nat.reduceSub, Nat.zero_add, Nat.add_zero,
  gos_seq, gos_next, gos_brk, gos_ct, gos_retN, gos_if, gos_asg, gos_ret, gos_drop, gos_par, gos_for, gos_setIx, kR_ok, kS_ok, kQ_nx, kQ_rt, kQ_bk, kQ_ct, kQ_ex, kC_rt, kC_nx, kC_ex,
  go_ret, go_some, go_bind, go_add, go_sub, go_mul, go_mod, go_div, go_pow, go_shl, go_lt, go_le, go_gt, go_ge, go_eq, go_eqS, go_ne, go_neS, go_eqB, go_eqT0, go_bl, go_tru, go_ixT, go_ixL, go_ixR, go_lenT, go_lenL, go_lenR, go_listT, go_max2, go_min2, go_if, gos_ifB, ifB_t, ifB_f,
  atI0, atI1, atI2, M.opt_some, Option.map_some, Bool.not_true, Bool.not_false, mSlice, mPart0, mRev, go_part, go_neg, go_slT, go_revT, go_rng1, asg, exists_eq_left', Option.some.injEq, D.int.injEq, List.cons.injEq, and_true, true_and]
    (rw [gos_cons]; simp only [gos_nil, evS, ev, evs, mArgs, mAnds, mOrs, tAnds, tOrs, Sm.of, Sm.bl, Sm.it, mVar, mCon, conD, mCall, mPrim, mBin, mChain, mAndV, mOrV, mAndT, mOrT, mNotV, mNotT, mIf, mNil, mCons, mTup, mLst, mDic, mYes,
  List.map_cons, List.map_nil, List.cons_append, List.nil_append, List.replicate, List.length_cons, List.length_nil, List.getElem?_cons_zero, List.getElem?_cons_succ, Option.join_some, List.set_cons_zero, List.set_cons_succ, Nat.reduceAdd, Nat.reduceSub, Nat.zero_add, Nat.add_zero,
  gos_seq, gos_next, gos_brk, gos_ct, gos_retN, gos_if, gos_asg, gos_ret, gos_drop, gos_par, gos_for, gos_setIx, kR_ok, kS_ok, kQ_nx, kQ_rt, kQ_bk, kQ_ct, kQ_ex, kC_rt, kC_nx, kC_ex,
  go_ret, go_some, go_bind, go_add, go_sub, go_mul, go_mod, go_div, go_pow, go_shl, go_lt, go_le, go_gt, go_ge, go_eq, go_eqS, go_ne, go_neS, go_eqB, go_eqT0, go_bl, go_tru, go_ixT, go_ixL, go_ixR, go_lenT, go_lenL, go_lenR, go_listT, go_max2, go_min2, go_if, gos_ifB, ifB_t, ifB_f,
  atI0, atI1, atI2, M.opt_some, Option.map_some, Bool.not_true, Bool.not_false, mSlice, mPart0, mRev, go_part, go_neg, go_slT, go_revT, go_rng1, asg, exists_eq_left', Option.some.injEq, D.int.injEq, List.cons.injEq, and_true, true_and, go_itL])
    refine ask th' _ _ _ _ _ _ _ _ _ _ rfl ht' fun y z => ?_
    simp only [gos_nil, evS, ev, evs, mArgs, mAnds, mOrs, tAnds, tOrs, Sm.of, Sm.bl, Sm.it, mVar, mCon, conD, mCall, mPrim, mBin, mChain, mAndV, mOrV, mAndT, mOrT, mNotV, mNotT, mIf, mNil, mCons, mTup, mLst, mDic, mYes,
  List.map_cons, List.map_nil, List.cons_append, List.nil_append, List.replicate, List.length_cons, List.length_nil, List.getElem?_cons_zero, List.getElem?_cons_succ, Option.join_some, List.set_cons_zero, List.set_cons_succ, Nat.reduceAdd, Nat.reduceSub, Nat.zero_add, Nat.add_zero,
  gos_seq, gos_next, gos_brk, gos_ct, gos_retN, gos_if, gos_asg, gos_ret, gos_drop, gos_par, gos_for, gos_setIx, kR_ok, kS_ok, kQ_nx, kQ_rt, kQ_bk, kQ_ct, kQ_ex, kC_rt, kC_nx, kC_ex,
  go_ret, go_some, go_bind, go_add, go_sub, go_mul, go_mod, go_div, go_pow, go_shl, go_lt, go_le, go_gt, go_ge, go_eq, go_eqS, go_ne, go_neS, go_eqB, go_eqT0, go_bl, go_tru, go_ixT, go_ixL, go_ixR, go_lenT, go_lenL, go_lenR, go_listT, go_max2, go_min2, go_if, gos_ifB, ifB_t, ifB_f,
  atI0, atI1, atI2, M.opt_some, Option.map_some, Bool.not_true, Bool.not_false, mSlice, mPart0, mRev, go_part, go_neg, go_slT, go_revT, go_rng1, asg, exists_eq_left', Option.some.injEq, D.int.injEq, List.cons.injEq, and_true, true_and]
    exact q _ _ _ _ _ _ _
theorem all (ns : List Int) (hns : ns.length ≤ 63) : ∃ st, MC.callD T Γ.gl 60 20 [.ro (ns.map .int)] [] = some (.ok (.bl true) st) := by
  suffices h : Go (cD 60 20 [.ro (ns.map .int)]) [] (fun r => ∃ st, r = .ok (.bl true) st) by
    obtain ⟨r, h1, st, rfl⟩ := h
    exact ⟨st, h1⟩
  rw [cD, go_call (f := f20) rfl rfl]
  show GoS (evSs _ _ b_law) _ _ _
  rw [show b_law = [.for (.nm 1) (.rng1 (.prim .max2 [(.con (.int 1)), (.prim .min2 [(.prim .len [(.var 0)]), (.con (.int 4))])])) bodyR, .ret (.con (.bool true))] from rfl]
  (rw [gos_cons]; simp only [gos_nil, evS, ev, evs, mArgs, mAnds, mOrs, tAnds, tOrs, Sm.of, Sm.bl, Sm.it, mVar, mCon, conD, mCall, mPrim, mBin, mChain, mAndV, mOrV, mAndT, mOrT, mNotV, mNotT, mIf, mNil, mCons, mTup, mLst, mDic, mYes,
  List.map_cons, List.map_nil, List.cons_append, List.nil_append, List.replicate, List.length_cons, List.length_nil, List.getElem?_cons_zero, List.getElem?_cons_succ, Option.join_some, List.set_cons_zero, List.set_cons_succ, Nat.reduceAdd, Nat.reduceSub, Nat.zero_add, Nat.add_zero,
  gos_seq, gos_next, gos_brk, gos_ct, gos_retN, gos_if, gos_asg, gos_ret, gos_drop, gos_par, gos_for, gos_setIx, kR_ok, kS_ok, kQ_nx, kQ_rt, kQ_bk, kQ_ct, kQ_ex, kC_rt, kC_nx, kC_ex,
  go_ret, go_some, go_bind, go_add, go_sub, go_mul, go_mod, go_div, go_pow, go_shl, go_lt, go_le, go_gt, go_ge, go_eq, go_eqS, go_ne, go_neS, go_eqB, go_eqT0, go_bl, go_tru, go_ixT, go_ixL, go_ixR, go_lenT, go_lenL, go_lenR, go_listT, go_max2, go_min2, go_if, gos_ifB, ifB_t, ifB_f,
  atI0, atI1, atI2, M.opt_some, Option.map_some, Bool.not_true, Bool.not_false, mSlice, mPart0, mRev, go_part, go_neg, go_slT, go_revT, go_rng1, asg, exists_eq_left', Option.some.injEq, D.int.injEq, List.cons.injEq, and_true, true_and])
  refine ⟨by omega, ?_⟩
  generalize (max 1 (min ((ns.map D.int).length : Int) 4)).toNat = m
  refine for_inv (fun ds ρ s => (∀ d ∈ ds, ∃ k : Int, d = .int k ∧ 0 ≤ k) ∧ ∃ y1 y2 y3 y4 y5 y6 y7, ρ = [some (.ro (ns.map .int)), y1, y2, y3, y4, y5, y6, y7]) _ _ _ ⟨?_, _, _, _, _, _, _, _, rfl⟩ ?_ ?_
  · intro d hd
    unfold rangeL at hd
    obtain ⟨k, _, rfl⟩ := List.mem_map.mp hd
    exact ⟨_, rfl, by omega⟩
  · rintro ρ s ⟨_, y1, y2, y3, y4, y5, y6, y7, rfl⟩
    simp only [gos_nil, evS, ev, evs, mArgs, mAnds, mOrs, tAnds, tOrs, Sm.of, Sm.bl, Sm.it, mVar, mCon, conD, mCall, mPrim, mBin, mChain, mAndV, mOrV, mAndT, mOrT, mNotV, mNotT, mIf, mNil, mCons, mTup, mLst, mDic, mYes,
  List.map_cons, List.map_nil, List.cons_append, List.nil_append, List.replicate, List.length_cons, List.length_nil, List.getElem?_cons_zero, List.getElem?_cons_succ, Option.join_some, List.set_cons_zero, List.set_cons_succ, Nat.reduceAdd, Nat.reduceSub, Nat.zero_add, Nat.add_zero,
  gos_seq, gos_next, gos_brk, gos_ct, gos_retN, gos_if, gos_asg, gos_ret, gos_drop, gos_par, gos_for, gos_setIx, kR_ok, kS_ok, kQ_nx, kQ_rt, kQ_bk, kQ_ct, kQ_ex, kC_rt, kC_nx, kC_ex,
  go_ret, go_some, go_bind, go_add, go_sub, go_mul, go_mod, go_div, go_pow, go_shl, go_lt, go_le, go_gt, go_ge, go_eq, go_eqS, go_ne, go_neS, go_eqB, go_eqT0, go_bl, go_tru, go_ixT, go_ixL, go_ixR, go_lenT, go_lenL, go_lenR, go_listT, go_max2, go_min2, go_if, gos_ifB, ifB_t, ifB_f,
  atI0, atI1, atI2, M.opt_some, Option.map_some, Bool.not_true, Bool.not_false, mSlice, mPart0, mRev, go_part, go_neg, go_slT, go_revT, go_rng1, asg, exists_eq_left', Option.some.injEq, D.int.injEq, List.cons.injEq, and_true, true_and]
    (rw [gos_cons]; simp only [gos_nil, evS, ev, evs, mArgs, mAnds, mOrs, tAnds, tOrs, Sm.of, Sm.bl, Sm.it, mVar, mCon, conD, mCall, mPrim, mBin, mChain, mAndV, mOrV, mAndT, mOrT, mNotV, mNotT, mIf, mNil, mCons, mTup, mLst, mDic, mYes,
  List.map_cons, List.map_nil, List.cons_append, List.nil_append, List.replicate, List.length_cons, List.length_nil, List.getElem?_cons_zero, List.getElem?_cons_succ, Option.join_some, List.set_cons_zero, List.set_cons_succ, Nat.reduceAdd, Nat.reduceSub, Nat.zero_add, Nat.add_zero,
  gos_seq, gos_next, gos_brk, gos_ct, gos_retN, gos_if, gos_asg, gos_ret, gos_drop, gos_par, gos_for, gos_setIx, kR_ok, kS_ok, kQ_nx, kQ_rt, kQ_bk, kQ_ct, kQ_ex, kC_rt, kC_nx, kC_ex,
  go_ret, go_some, go_bind, go_add, go_sub, go_mul, go_mod, go_div, go_pow, go_shl, go_lt, go_le, go_gt, go_ge, go_eq, go_eqS, go_ne, go_neS, go_eqB, go_eqT0, go_bl, go_tru, go_ixT, go_ixL, go_ixR, go_lenT, go_lenL, go_lenR, go_listT, go_max2, go_min2, go_if, gos_ifB, ifB_t, ifB_f,
  atI0, atI1, atI2, M.opt_some, Option.map_some, Bool.not_true, Bool.not_false, mSlice, mPart0, mRev, go_part, go_neg, go_slT, go_revT, go_rng1, asg, exists_eq_left', Option.some.injEq, D.int.injEq, List.cons.injEq, and_true, true_and])
    exact ⟨_, rfl⟩
  · rintro d ds ρ s ⟨hd, y1, y2, y3, y4, y5, y6, y7, rfl⟩
    obtain ⟨k, rfl, hk⟩ := hd d List.mem_cons_self
    refine ⟨_, rfl, ?_⟩
    refine round ns k hk y2 y3 y4 y5 y6 y7 _ fun z2 z3 z4 z5 z6 z7 s' => ?_
    exact ⟨fun d' h' => hd d' (List.mem_cons_of_mem _ h'), _, _, _, _, _, _, _, rfl⟩
end
end K30

set_option maxHeartbeats 0
namespace K30
open PySem PySem.Spec PyProof.Rows L2 MC
abbrev R : PySem.W.OpenRow := PySem.W.OpenLaw.row PySem.Challenge.rw_machinecast_k30_trees_known
def top (i : Nat) : Stmt := PySem.Challenge.rw_machinecast_k30_trees_known.prog.main.body.getD i (.Pass ⟨0, 0, 0, 0⟩)
def fn : List He.DefD := [⟨("is_whole", none), "is_whole", "is_whole", defArgs (top 2), defBody (top 2), defScope (top 2), [], []⟩,
  ⟨("is_from_to", none), "is_from_to", "is_from_to", defArgs (top 3), defBody (top 3), defScope (top 3), [], []⟩,
  ⟨("is_shaped", none), "is_shaped", "is_shaped", defArgs (top 4), defBody (top 4), defScope (top 4), [], []⟩,
  ⟨("is_two", none), "is_two", "is_two", defArgs (top 5), defBody (top 5), defScope (top 5), [], []⟩,
  ⟨("is_input", none), "is_input", "is_input", defArgs (top 10), defBody (top 10), defScope (top 10), [], []⟩,
  ⟨("is_leaf", none), "is_leaf", "is_leaf", defArgs (top 11), defBody (top 11), defScope (top 11), [], []⟩,
  ⟨("inner_of", none), "inner_of", "inner_of", defArgs (top 12), defBody (top 12), defScope (top 12), [], []⟩,
  ⟨("is_tree", none), "is_tree", "is_tree", defArgs (top 13), defBody (top 13), defScope (top 13), [], []⟩,
  ⟨("_law_cell_at", none), "_law_cell_at", "_law_cell_at", defArgs (top 15), defBody (top 15), defScope (top 15), [], []⟩,
  ⟨("_law_pen", none), "_law_pen", "_law_pen", defArgs (top 16), defBody (top 16), defScope (top 16), [], []⟩,
  ⟨("_law_draw", none), "_law_draw", "_law_draw", defArgs (top 17), defBody (top 17), defScope (top 17), [], []⟩,
  ⟨("_law_pick", none), "_law_pick", "_law_pick", defArgs (top 18), defBody (top 18), defScope (top 18), [], []⟩,
  ⟨("_law_whole", none), "_law_whole", "_law_whole", defArgs (top 19), defBody (top 19), defScope (top 19), [], []⟩,
  ⟨("_law_within", none), "_law_within", "_law_within", defArgs (top 20), defBody (top 20), defScope (top 20), [], []⟩,
  ⟨("_law_odd", none), "_law_odd", "_law_odd", defArgs (top 21), defBody (top 21), defScope (top 21), [], []⟩,
  ⟨("_law_leaf", none), "_law_leaf", "_law_leaf", defArgs (top 22), defBody (top 22), defScope (top 22), [], []⟩,
  ⟨("_law_tree", none), "_law_tree", "_law_tree", defArgs (top 23), defBody (top 23), defScope (top 23), [], []⟩,
  ⟨("_law_bent", none), "_law_bent", "_law_bent", defArgs (top 24), defBody (top 24), defScope (top 24), [], []⟩,
  ⟨("_law_inners", none), "_law_inners", "_law_inners", defArgs (top 25), defBody (top 25), defScope (top 25), [], []⟩,
  ⟨("_law_long", none), "_law_long", "_law_long", defArgs (top 26), defBody (top 26), defScope (top 26), [], []⟩,
  ⟨("law", none), "law", "law", defArgs (top 27), defBody (top 27), defScope (top 27), [], []⟩]
theorem c0 : chkSs Γ ⟨defScope (top 2), f0.N, fun _ => true⟩ f0.body (defBody (top 2)) = true := by kernel_rfl
theorem s0 : FnScope f0.N f0.ps (defScope (top 2)) := C8.fnScope_by (by kernel_rfl)
theorem c1 : chkSs Γ ⟨defScope (top 3), f1.N, fun _ => true⟩ f1.body (defBody (top 3)) = true := by kernel_rfl
theorem s1 : FnScope f1.N f1.ps (defScope (top 3)) := C8.fnScope_by (by kernel_rfl)
theorem c2 : chkSs Γ ⟨defScope (top 4), f2.N, fun _ => true⟩ f2.body (defBody (top 4)) = true := by kernel_rfl
theorem s2 : FnScope f2.N f2.ps (defScope (top 4)) := C8.fnScope_by (by kernel_rfl)
theorem c3 : chkSs Γ ⟨defScope (top 5), f3.N, fun _ => true⟩ f3.body (defBody (top 5)) = true := by kernel_rfl
theorem s3 : FnScope f3.N f3.ps (defScope (top 5)) := C8.fnScope_by (by kernel_rfl)
theorem c4 : chkSs Γ ⟨defScope (top 10), f4.N, fun _ => true⟩ f4.body (defBody (top 10)) = true := by kernel_rfl
theorem s4 : FnScope f4.N f4.ps (defScope (top 10)) := C8.fnScope_by (by kernel_rfl)
theorem c5 : chkSs Γ ⟨defScope (top 11), f5.N, fun _ => true⟩ f5.body (defBody (top 11)) = true := by kernel_rfl
theorem s5 : FnScope f5.N f5.ps (defScope (top 11)) := C8.fnScope_by (by kernel_rfl)
theorem c6 : chkSs Γ ⟨defScope (top 12), f6.N, fun _ => true⟩ f6.body (defBody (top 12)) = true := by kernel_rfl
theorem s6 : FnScope f6.N f6.ps (defScope (top 12)) := C8.fnScope_by (by kernel_rfl)
theorem c7 : chkSs Γ ⟨defScope (top 13), f7.N, fun _ => true⟩ f7.body (defBody (top 13)) = true := by kernel_rfl
theorem s7 : FnScope f7.N f7.ps (defScope (top 13)) := C8.fnScope_by (by kernel_rfl)
theorem c8 : chkSs Γ ⟨defScope (top 15), f8.N, fun _ => true⟩ f8.body (defBody (top 15)) = true := by kernel_rfl
theorem s8 : FnScope f8.N f8.ps (defScope (top 15)) := C8.fnScope_by (by kernel_rfl)
theorem c9 : chkSs Γ ⟨defScope (top 16), f9.N, fun _ => true⟩ f9.body (defBody (top 16)) = true := by kernel_rfl
theorem s9 : FnScope f9.N f9.ps (defScope (top 16)) := C8.fnScope_by (by kernel_rfl)
theorem c10 : chkSs Γ ⟨defScope (top 17), f10.N, fun _ => true⟩ f10.body (defBody (top 17)) = true := by kernel_rfl
theorem s10 : FnScope f10.N f10.ps (defScope (top 17)) := C8.fnScope_by (by kernel_rfl)
theorem c11 : chkSs Γ ⟨defScope (top 18), f11.N, fun _ => true⟩ f11.body (defBody (top 18)) = true := by kernel_rfl
theorem s11 : FnScope f11.N f11.ps (defScope (top 18)) := C8.fnScope_by (by kernel_rfl)
theorem c12 : chkSs Γ ⟨defScope (top 19), f12.N, fun _ => true⟩ f12.body (defBody (top 19)) = true := by kernel_rfl
theorem s12 : FnScope f12.N f12.ps (defScope (top 19)) := C8.fnScope_by (by kernel_rfl)
theorem c13 : chkSs Γ ⟨defScope (top 20), f13.N, fun _ => true⟩ f13.body (defBody (top 20)) = true := by kernel_rfl
theorem s13 : FnScope f13.N f13.ps (defScope (top 20)) := C8.fnScope_by (by kernel_rfl)
theorem c14 : chkSs Γ ⟨defScope (top 21), f14.N, fun _ => true⟩ f14.body (defBody (top 21)) = true := by kernel_rfl
theorem s14 : FnScope f14.N f14.ps (defScope (top 21)) := C8.fnScope_by (by kernel_rfl)
theorem c15 : chkSs Γ ⟨defScope (top 22), f15.N, fun _ => true⟩ f15.body (defBody (top 22)) = true := by kernel_rfl
theorem s15 : FnScope f15.N f15.ps (defScope (top 22)) := C8.fnScope_by (by kernel_rfl)
theorem c16 : chkSs Γ ⟨defScope (top 23), f16.N, fun _ => true⟩ f16.body (defBody (top 23)) = true := by kernel_rfl
theorem s16 : FnScope f16.N f16.ps (defScope (top 23)) := C8.fnScope_by (by kernel_rfl)
theorem c17 : chkSs Γ ⟨defScope (top 24), f17.N, fun _ => true⟩ f17.body (defBody (top 24)) = true := by kernel_rfl
theorem s17 : FnScope f17.N f17.ps (defScope (top 24)) := C8.fnScope_by (by kernel_rfl)
theorem c18 : chkSs Γ ⟨defScope (top 25), f18.N, fun _ => true⟩ f18.body (defBody (top 25)) = true := by kernel_rfl
theorem s18 : FnScope f18.N f18.ps (defScope (top 25)) := C8.fnScope_by (by kernel_rfl)
theorem c19 : chkSs Γ ⟨defScope (top 26), f19.N, fun _ => true⟩ f19.body (defBody (top 26)) = true := by kernel_rfl
theorem s19 : FnScope f19.N f19.ps (defScope (top 26)) := C8.fnScope_by (by kernel_rfl)
theorem c20 : chkSs Γ ⟨defScope (top 27), f20.N, fun _ => true⟩ f20.body (defBody (top 27)) = true := by kernel_rfl
theorem s20 : FnScope f20.N f20.ps (defScope (top 27)) := C8.fnScope_by (by kernel_rfl)
theorem links {K : PySem.W.Frag} {h : Heap} {mg : Str → Option Value} (kin : K.In h) (G : h.Ns mainGlobals mg) (c : obsM Γ fn K = He.valD fn) (i : Nat) (f : Fn) (hf : T[i]? = some f) : FLk K mg Γ f := by
  have ck := ck_parts (saysM_ck c)
  match i, hf with
  | 0, hf =>
    cases hf
    obtain ⟨fd, F⟩ := saysM_def c 0 (d := fn[0]) rfl
    exact ⟨_, fd, _, _, _, _, _, _, _, He.glo_ok kin G (ck.2.1 f0.name (List.mem_of_getElem? (i := 0) rfl)), F, FunD.bindsN (ps := f0.ps) F fun _ _ _ _ _ _ us hl => (match us, hl with | [_], _ => rfl), s0, c0⟩
  | 1, hf =>
    cases hf
    obtain ⟨fd, F⟩ := saysM_def c 1 (d := fn[1]) rfl
    exact ⟨_, fd, _, _, _, _, _, _, _, He.glo_ok kin G (ck.2.1 f1.name (List.mem_of_getElem? (i := 1) rfl)), F, FunD.bindsN (ps := f1.ps) F fun _ _ _ _ _ _ us hl => (match us, hl with | [_, _, _], _ => rfl), s1, c1⟩
  | 2, hf =>
    cases hf
    obtain ⟨fd, F⟩ := saysM_def c 2 (d := fn[2]) rfl
    exact ⟨_, fd, _, _, _, _, _, _, _, He.glo_ok kin G (ck.2.1 f2.name (List.mem_of_getElem? (i := 2) rfl)), F, FunD.bindsN (ps := f2.ps) F fun _ _ _ _ _ _ us hl => (match us, hl with | [_, _, _], _ => rfl), s2, c2⟩
  | 3, hf =>
    cases hf
    obtain ⟨fd, F⟩ := saysM_def c 3 (d := fn[3]) rfl
    exact ⟨_, fd, _, _, _, _, _, _, _, He.glo_ok kin G (ck.2.1 f3.name (List.mem_of_getElem? (i := 3) rfl)), F, FunD.bindsN (ps := f3.ps) F fun _ _ _ _ _ _ us hl => (match us, hl with | [_], _ => rfl), s3, c3⟩
  | 4, hf =>
    cases hf
    obtain ⟨fd, F⟩ := saysM_def c 4 (d := fn[4]) rfl
    exact ⟨_, fd, _, _, _, _, _, _, _, He.glo_ok kin G (ck.2.1 f4.name (List.mem_of_getElem? (i := 4) rfl)), F, FunD.bindsN (ps := f4.ps) F fun _ _ _ _ _ _ us hl => (match us, hl with | [_], _ => rfl), s4, c4⟩
  | 5, hf =>
    cases hf
    obtain ⟨fd, F⟩ := saysM_def c 5 (d := fn[5]) rfl
    exact ⟨_, fd, _, _, _, _, _, _, _, He.glo_ok kin G (ck.2.1 f5.name (List.mem_of_getElem? (i := 5) rfl)), F, FunD.bindsN (ps := f5.ps) F fun _ _ _ _ _ _ us hl => (match us, hl with | [_], _ => rfl), s5, c5⟩
  | 6, hf =>
    cases hf
    obtain ⟨fd, F⟩ := saysM_def c 6 (d := fn[6]) rfl
    exact ⟨_, fd, _, _, _, _, _, _, _, He.glo_ok kin G (ck.2.1 f6.name (List.mem_of_getElem? (i := 6) rfl)), F, FunD.bindsN (ps := f6.ps) F fun _ _ _ _ _ _ us hl => (match us, hl with | [_], _ => rfl), s6, c6⟩
  | 7, hf =>
    cases hf
    obtain ⟨fd, F⟩ := saysM_def c 7 (d := fn[7]) rfl
    exact ⟨_, fd, _, _, _, _, _, _, _, He.glo_ok kin G (ck.2.1 f7.name (List.mem_of_getElem? (i := 7) rfl)), F, FunD.bindsN (ps := f7.ps) F fun _ _ _ _ _ _ us hl => (match us, hl with | [_], _ => rfl), s7, c7⟩
  | 8, hf =>
    cases hf
    obtain ⟨fd, F⟩ := saysM_def c 8 (d := fn[8]) rfl
    exact ⟨_, fd, _, _, _, _, _, _, _, He.glo_ok kin G (ck.2.1 f8.name (List.mem_of_getElem? (i := 8) rfl)), F, FunD.bindsN (ps := f8.ps) F fun _ _ _ _ _ _ us hl => (match us, hl with | [_, _], _ => rfl), s8, c8⟩
  | 9, hf =>
    cases hf
    obtain ⟨fd, F⟩ := saysM_def c 9 (d := fn[9]) rfl
    exact ⟨_, fd, _, _, _, _, _, _, _, He.glo_ok kin G (ck.2.1 f9.name (List.mem_of_getElem? (i := 9) rfl)), F, FunD.bindsN (ps := f9.ps) F fun _ _ _ _ _ _ us hl => (match us, hl with | [_], _ => rfl), s9, c9⟩
  | 10, hf =>
    cases hf
    obtain ⟨fd, F⟩ := saysM_def c 10 (d := fn[10]) rfl
    exact ⟨_, fd, _, _, _, _, _, _, _, He.glo_ok kin G (ck.2.1 f10.name (List.mem_of_getElem? (i := 10) rfl)), F, FunD.bindsN (ps := f10.ps) F fun _ _ _ _ _ _ us hl => (match us, hl with | [_, _], _ => rfl), s10, c10⟩
  | 11, hf =>
    cases hf
    obtain ⟨fd, F⟩ := saysM_def c 11 (d := fn[11]) rfl
    exact ⟨_, fd, _, _, _, _, _, _, _, He.glo_ok kin G (ck.2.1 f11.name (List.mem_of_getElem? (i := 11) rfl)), F, FunD.bindsN (ps := f11.ps) F fun _ _ _ _ _ _ us hl => (match us, hl with | [_, _], _ => rfl), s11, c11⟩
  | 12, hf =>
    cases hf
    obtain ⟨fd, F⟩ := saysM_def c 12 (d := fn[12]) rfl
    exact ⟨_, fd, _, _, _, _, _, _, _, He.glo_ok kin G (ck.2.1 f12.name (List.mem_of_getElem? (i := 12) rfl)), F, FunD.bindsN (ps := f12.ps) F fun _ _ _ _ _ _ us hl => (match us, hl with | [_], _ => rfl), s12, c12⟩
  | 13, hf =>
    cases hf
    obtain ⟨fd, F⟩ := saysM_def c 13 (d := fn[13]) rfl
    exact ⟨_, fd, _, _, _, _, _, _, _, He.glo_ok kin G (ck.2.1 f13.name (List.mem_of_getElem? (i := 13) rfl)), F, FunD.bindsN (ps := f13.ps) F fun _ _ _ _ _ _ us hl => (match us, hl with | [_, _, _], _ => rfl), s13, c13⟩
  | 14, hf =>
    cases hf
    obtain ⟨fd, F⟩ := saysM_def c 14 (d := fn[14]) rfl
    exact ⟨_, fd, _, _, _, _, _, _, _, He.glo_ok kin G (ck.2.1 f14.name (List.mem_of_getElem? (i := 14) rfl)), F, FunD.bindsN (ps := f14.ps) F fun _ _ _ _ _ _ us hl => (match us, hl with | [_], _ => rfl), s14, c14⟩
  | 15, hf =>
    cases hf
    obtain ⟨fd, F⟩ := saysM_def c 15 (d := fn[15]) rfl
    exact ⟨_, fd, _, _, _, _, _, _, _, He.glo_ok kin G (ck.2.1 f15.name (List.mem_of_getElem? (i := 15) rfl)), F, FunD.bindsN (ps := f15.ps) F fun _ _ _ _ _ _ us hl => (match us, hl with | [_, _, _], _ => rfl), s15, c15⟩
  | 16, hf =>
    cases hf
    obtain ⟨fd, F⟩ := saysM_def c 16 (d := fn[16]) rfl
    exact ⟨_, fd, _, _, _, _, _, _, _, He.glo_ok kin G (ck.2.1 f16.name (List.mem_of_getElem? (i := 16) rfl)), F, FunD.bindsN (ps := f16.ps) F fun _ _ _ _ _ _ us hl => (match us, hl with | [_, _, _, _], _ => rfl), s16, c16⟩
  | 17, hf =>
    cases hf
    obtain ⟨fd, F⟩ := saysM_def c 17 (d := fn[17]) rfl
    exact ⟨_, fd, _, _, _, _, _, _, _, He.glo_ok kin G (ck.2.1 f17.name (List.mem_of_getElem? (i := 17) rfl)), F, FunD.bindsN (ps := f17.ps) F fun _ _ _ _ _ _ us hl => (match us, hl with | [_, _, _], _ => rfl), s17, c17⟩
  | 18, hf =>
    cases hf
    obtain ⟨fd, F⟩ := saysM_def c 18 (d := fn[18]) rfl
    exact ⟨_, fd, _, _, _, _, _, _, _, He.glo_ok kin G (ck.2.1 f18.name (List.mem_of_getElem? (i := 18) rfl)), F, FunD.bindsN (ps := f18.ps) F fun _ _ _ _ _ _ us hl => (match us, hl with | [_], _ => rfl), s18, c18⟩
  | 19, hf =>
    cases hf
    obtain ⟨fd, F⟩ := saysM_def c 19 (d := fn[19]) rfl
    exact ⟨_, fd, _, _, _, _, _, _, _, He.glo_ok kin G (ck.2.1 f19.name (List.mem_of_getElem? (i := 19) rfl)), F, FunD.bindsN (ps := f19.ps) F fun _ _ _ _ _ _ us hl => (match us, hl with | [_, _], _ => rfl), s19, c19⟩
  | 20, hf =>
    cases hf
    obtain ⟨fd, F⟩ := saysM_def c 20 (d := fn[20]) rfl
    exact ⟨_, fd, _, _, _, _, _, _, _, He.glo_ok kin G (ck.2.1 f20.name (List.mem_of_getElem? (i := 20) rfl)), F, FunD.bindsN (ps := f20.ps) F fun _ _ _ _ _ _ us hl => (match us, hl with | [_], _ => rfl), s20, c20⟩
  | _ + 21, hf => cases hf
abbrev hk : PySem.W.Hook := hookM 4 Γ fn
def ob (s : PySem.W.SharedT) : He.AlD := obsM Γ fn (frM 4 (HandSHeadRun.getT s))
theorem ob_eq (s : PySem.W.SharedT) : ob s = hk.obs s.abs := hookM_eq (HandSHeadRun.getT_eq s)
def loose : List Str := ["WORDS", "is_whole", "is_from_to", "is_shaped", "is_two", "MOST_LEAF", "MOST_INPUT", "MOST_INNER", "is_input", "is_leaf", "inner_of", "is_tree", "_law_cell_at", "_law_pen", "_law_draw", "_law_pick", "_law_whole", "_law_within", "_law_odd", "_law_leaf", "_law_tree", "_law_bent", "_law_inners", "_law_long"]
theorem run (w : World) : HandSHeadRun.RunEq R (PySem.W.view R.prog [27]) hk ob 3000 loose w := by
  intro os
  kernel_rfl
open PySem PySem.W PySem.Calls PyProof.Rows in
theorem holds (all : ∀ ns : List Int, ns.length ≤ 63 → ∃ st, MC.callD T Γ.gl 60 20 [.ro (ns.map .int)] [] = some (.ok (.bl true) st)) : PySem.Challenge.rw_machinecast_k30_trees_known.Holds := by
  w_on; o_law
  refine HandSHeadRun.head_any (r := OpenLaw.row PySem.Challenge.rw_machinecast_k30_trees_known) (q := view (OpenLaw.row PySem.Challenge.rw_machinecast_k30_trees_known).prog [27]) (H := hk) (ob := ob) (M := 3000) (loose := loose) (d := HandSHeadRun.topDef (OpenLaw.row PySem.Challenge.rw_machinecast_k30_trees_known).prog 27) (kwd := []) ob_eq
    (by kernel_rfl) (fun s => by kernel_rfl) run (by kernel_rfl) (by kernel_rfl) (by kernel_rfl) (by rfl) (by first | assumption | decide +kernel) (by decide +kernel) ⟨rfl, rfl, rfl, rfl, rfl, by decide +kernel⟩ ?hw ?hc
  case hw => w_witness2
  case hc =>
    refine MC.law_end (l := PySem.Challenge.rw_machinecast_k30_trees_known) (n := 63) (k := 60) (x := "_law_script") rfl (by decide) (by kernel_rfl) ⟨rfl, by decide, by decide⟩ MC.caller_gu ?F
    intro w mg fa h Y G hm
    obtain ⟨K, kin, c⟩ := Y
    have hm2 : mg ("law" : PySem.Str) = some (.ref fa) := by
      have e : (HandSHeadRun.topDef (OpenLaw.row PySem.Challenge.rw_machinecast_k30_trees_known).prog 27).name = ("law" : PySem.Str) := by kernel_rfl
      rw [← e]
      exact hm
    have ck := MC.ck_parts (MC.saysM_ck c)
    have lk := links kin G c
    obtain ⟨a, fd, h1, h2, h3, h4⟩ := MC.all_ok (P := (PySem.Challenge.rw_machinecast_k30_trees_known).prog) (w := w) (cl := fun _ => 0) rfl lk (MC.kmB_ok ck.1) (fun x hx => He.free_ok kin G (ck.2.2.1 x hx)) (MC.gl_ok kin G (MC.saysM_ck c)) 60 20 f20 rfl
    cases h1.symm.trans hm2
    exact ⟨K, fd, fun _ => 0, MC.callD T Γ.gl 60 20, kin, h3, all, fun base _ _ => h4 base⟩
end K30

set_option maxRecDepth 100000 in
set_option maxHeartbeats 8000000 in
theorem PySem.Challenge.cw_machinecast_k30_trees_known_holds : PySem.Challenge.rw_machinecast_k30_trees_known.Holds :=
  K30.holds K30.all
