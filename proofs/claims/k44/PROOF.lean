import PyProof.Rows.All
import PySem.Challenge.RW_twotapes_k44_boxes
import HandS.ForMost
import HandS.IsInst
import HandS.Deep
import HandS.TupAny
import HandS.Conv
import HandS.Replace
import HandS.SetKeys
set_option Elab.async false
set_option linter.all false
set_option maxRecDepth 100000
/-! DA: pure data over the hand layer: what a value is (D), the store of mutable objects, the relation, the judgements. -/
namespace DL
open PySem PySem.Spec L2

inductive D where
  | non | bl (b : Bool) | int (i : Int) | str (s : List Nat) | tup (ds : List D) | lst (ds : List D) | dk (es : List (Key × D))
  /-- a list of ints that is only read (the script) -/
  | scr (ns : List Int)

/-- texts: short, and of small signs -/
def sOk (s : List Nat) : Bool := decide (s.length ≤ sizeLine) && s.all fun c => decide (c < 256)

/-- a dict without its lock -/
def unl : HO → HO
  | .frz _ (.dK k) => .dK k
  | .frz _ (.dT k) => .dT k
  | o => o
theorem unl_lst {o : HO} {xs : List V} (h : unl o = .lst xs) : o = .lst xs := by
  unfold unl at h
  split at h <;> cases h <;> rfl
theorem unl_tup {o : HO} {xs : List V} (h : unl o = .tup xs) : o = .tup xs := by
  unfold unl at h
  split at h <;> cases h <;> rfl
theorem unl_frzt {o : HO} {ob : Obj} {xs : List V} (h : unl o = .frz ob (.tup xs)) : o = .frz ob (.tup xs) := by
  unfold unl at h
  split at h <;> cases h <;> rfl
theorem unl_frzl {o : HO} {ob : Obj} {xs : List V} (h : unl o = .frz ob (.lst xs)) : o = .frz ob (.lst xs) := by
  unfold unl at h
  split at h <;> cases h <;> rfl

section
variable (K : PySem.W.Frag) (H : Hp)
mutual
inductive Dr : V → D → Prop
  | non : Dr .non .non
  | bl (b : Bool) : Dr (.bl b) (.bl b)
  | int (i : Int) : Dr (.int i) (.int i)
  | str (s : List Nat) (ok : sOk s = true) : Dr (.str ⟨s.toArray⟩) (.str s)
  | tup {a : Addr} {xs : List V} {ds : List D} : SqT K H a xs → DrAll xs ds → Dr (.ref a) (.tup ds)
  | lst {a : Addr} {xs : List V} {ds : List D} : H a = some (.lst xs) → DrAll xs ds → Dr (.ref a) (.lst ds)
  | scr {a : Addr} {ns : List Int} : SqL K H a (ns.map V.int) → Dr (.ref a) (.scr ns)
  | dk {a : Addr} {o : HO} {kvs : List (Key × V)} {es : List (Key × D)} : H a = some o → unl o = .dK kvs → kvs.map (·.1) = es.map (·.1) → DrAll (kvs.map (·.2)) (es.map (·.2)) → Dr (.ref a) (.dk es)
inductive DrAll : List V → List D → Prop
  | nil : DrAll [] []
  | cons {v : V} {vs : List V} {d : D} {ds : List D} : Dr v d → DrAll vs ds → DrAll (v :: vs) (d :: ds)
end
end

def Le (H H' : Hp) : Prop := ∀ a o, H a = some o → ∃ o', H' a = some o' ∧ unl o' = unl o
section
variable {K : PySem.W.Frag} {H H' : Hp}
theorem Le.lst (l : Le H H') {a : Addr} {xs : List V} (h : H a = some (.lst xs)) : H' a = some (.lst xs) := by
  obtain ⟨o, h1, h2⟩ := l _ _ h
  rw [h1, unl_lst h2]
theorem Le.seqL (l : Le H H') {a : Addr} {xs : List V} (h : SqL K H a xs) : SqL K H' a xs := by
  rcases h with (h | ⟨ob, h⟩) | h
  · exact .inl (.inl (l.lst h))
  · obtain ⟨o, h1, h2⟩ := l _ _ h
    exact .inl (.inr ⟨ob, by rw [h1, unl_frzl h2]⟩)
  · exact .inr h
theorem Le.seqT (l : Le H H') {a : Addr} {xs : List V} (h : SqT K H a xs) : SqT K H' a xs := by
  rcases h with (h | ⟨ob, h⟩) | h
  · obtain ⟨o, h1, h2⟩ := l _ _ h
    exact .inl (.inl (by rw [h1, unl_tup h2]))
  · obtain ⟨o, h1, h2⟩ := l _ _ h
    exact .inl (.inr ⟨ob, by rw [h1, unl_frzt h2]⟩)
  · exact .inr h
mutual
theorem Dr.mono (l : Le H H') : ∀ {v : V} {d : D}, Dr K H v d → Dr K H' v d
  | _, _, .non => .non
  | _, _, .bl b => .bl b
  | _, _, .int i => .int i
  | _, _, .str s ok => .str s ok
  | _, _, .tup h r => .tup (l.seqT h) (DrAll.mono l r)
  | _, _, .lst h r => .lst (l.lst h) (DrAll.mono l r)
  | _, _, .scr h => .scr (l.seqL h)
  | _, _, .dk h u e r => let ⟨_, h1, h2⟩ := l _ _ h; .dk h1 (h2.trans u) e (DrAll.mono l r)
theorem DrAll.mono (l : Le H H') : ∀ {vs : List V} {ds : List D}, DrAll K H vs ds → DrAll K H' vs ds
  | _, _, .nil => .nil
  | _, _, .cons h r => .cons (Dr.mono l h) (DrAll.mono l r)
end
theorem DrAll.length : ∀ {vs : List V} {ds : List D}, DrAll K H vs ds → vs.length = ds.length
  | _, _, .nil => rfl
  | _, _, .cons _ r => by rw [List.length_cons, List.length_cons, r.length]
theorem DrAll.get : ∀ {vs : List V} {ds : List D} {i : Nat} {d : D}, DrAll K H vs ds → ds[i]? = some d → ∃ v, vs[i]? = some v ∧ Dr K H v d
  | _, _, _, _, .nil, e => by simp at e
  | _, _, 0, _, .cons h r, e => by simp at e; subst e; exact ⟨_, rfl, h⟩
  | _, _, i + 1, d, .cons _ r, e => by
    obtain ⟨v, h1, h2⟩ := DrAll.get (i := i) (d := d) r (by simpa using e)
    exact ⟨v, by simpa using h1, h2⟩
theorem DrAll.getV : ∀ {vs : List V} {ds : List D} {i : Nat} {v : V}, DrAll K H vs ds → vs[i]? = some v → ∃ d, ds[i]? = some d ∧ Dr K H v d
  | _, _, _, _, .nil, e => by simp at e
  | _, _, 0, _, .cons h r, e => by simp at e; subst e; exact ⟨_, rfl, h⟩
  | _, _, i + 1, v, .cons _ r, e => by
    obtain ⟨d, h1, h2⟩ := DrAll.getV (i := i) (v := v) r (by simpa using e)
    exact ⟨d, by simpa using h1, h2⟩
theorem DrAll.append : ∀ {vs ws : List V} {ds es : List D}, DrAll K H vs ds → DrAll K H ws es → DrAll K H (vs ++ ws) (ds ++ es)
  | _, _, _, _, .nil, s => s
  | _, _, _, _, .cons h r, s => .cons h (DrAll.append r s)
theorem DrAll.take : ∀ {vs : List V} {ds : List D} (n : Nat), DrAll K H vs ds → DrAll K H (vs.take n) (ds.take n)
  | _, _, 0, _ => .nil
  | _, _, _ + 1, .nil => .nil
  | _, _, n + 1, .cons h r => .cons h (DrAll.take n r)
theorem DrAll.drop : ∀ {vs : List V} {ds : List D} (n : Nat), DrAll K H vs ds → DrAll K H (vs.drop n) (ds.drop n)
  | _, _, 0, r => r
  | _, _, _ + 1, .nil => .nil
  | _, _, n + 1, .cons h r => DrAll.drop n r
end

/-- a slot's value, an item of a mutable thing: data, or the n-th of the store -/
inductive SV where
  | d (x : D) | r (n : Nat)
inductive MO where
  | lst (ss : List SV) | dk (es : List (Key × SV)) | ob (C : Addr) (fs : List (Str × SV))
abbrev Env := List (Option SV)
abbrev Store := List MO

open Classical in
noncomputable def fz (H : Hp) (W : Addr → Prop) (ι : List Addr) : Hp := fun b => if W b ∨ b ∈ ι then none else H b
theorem fz_none {H : Hp} {W : Addr → Prop} {ι : List Addr} {b : Addr} (h : W b ∨ b ∈ ι) : fz H W ι b = none := by unfold fz; rw [if_pos h]
theorem fz_at {H : Hp} {W : Addr → Prop} {ι : List Addr} {b : Addr} (h1 : ¬ W b) (h2 : b ∉ ι) : fz H W ι b = H b := by
  unfold fz; rw [if_neg (fun h => h.elim h1 h2)]
theorem fz_of {H : Hp} {W : Addr → Prop} {ι : List Addr} {b : Addr} {o : HO} (h : fz H W ι b = some o) : ¬ W b ∧ b ∉ ι ∧ H b = some o := by
  unfold fz at h
  by_cases c : W b ∨ b ∈ ι
  · rw [if_pos c] at h; cases h
  · rw [if_neg c] at h
    exact ⟨fun z => c (.inl z), fun z => c (.inr z), h⟩
theorem le_fz {H : Hp} {W : Addr → Prop} {ι : List Addr} : Le (fz H W ι) H := fun _ _ r => ⟨_, (fz_of r).2.2, rfl⟩

def SvR (K : PySem.W.Frag) (F : Hp) (ι : List Addr) (v : V) : SV → Prop
  | .d x => Dr K F v x
  | .r n => ∃ a, ι[n]? = some a ∧ v = .ref a
abbrev SvAll (K : PySem.W.Frag) (F : Hp) (ι : List Addr) : List V → List SV → Prop := Paired (SvR K F ι)
def MoR (K : PySem.W.Frag) (F H : Hp) (ι : List Addr) (a : Addr) : MO → Prop
  | .lst ss => ∃ xs, H a = some (.lst xs) ∧ SvAll K F ι xs ss
  | .dk es => ∃ kvs, H a = some (.dK kvs) ∧ kvs.map (·.1) = es.map (·.1) ∧ SvAll K F ι (kvs.map (·.2)) (es.map (·.2))
  | .ob C fs => ∃ dx gs, H a = some (.ins C dx gs) ∧ gs.map (·.1) = fs.map (·.1) ∧ SvAll K F ι (gs.map (·.2)) (fs.map (·.2))

structure Sto (K : PySem.W.Frag) (W : Addr → Prop) (H : Hp) (ι : List Addr) (st : Store) : Prop where
  nd : ι.Nodup
  len : ι.length = st.length
  wd : ∀ a ∈ ι, ¬ W a
  wn : ∀ a, W a → H a ≠ none
  mo : ∀ (n : Nat) (o : MO) (a : Addr), st[n]? = some o → ι[n]? = some a → MoR K (fz H W ι) H ι a o
structure Rl (K : PySem.W.Frag) (W : Addr → Prop) (σ : L2.St) (H : Hp) (ι : List Addr) (δ : Env) (st : Store) : Prop where
  sto : Sto K W H ι st
  len : δ.length = σ.length
  sl : ∀ (i : Nat) (s : SV), δ[i]? = some (some s) → ∃ v, σ[i]? = some (some v) ∧ SvR K (fz H W ι) ι v s
/-- what a step keeps -/
structure Ps (H : Hp) (ι : List Addr) (H' : Hp) (ι' : List Addr) : Prop where
  keep : ∀ a o, a ∉ ι → H a = some o → H' a = some o
  dom : ∀ a, H a ≠ none → H' a ≠ none
  new : ∀ a ∈ ι', a ∈ ι ∨ H a = none
  pre : ι <+: ι'
theorem Ps.refl (H : Hp) (ι : List Addr) : Ps H ι H ι := ⟨fun _ _ _ r => r, fun _ r => r, fun _ r => .inl r, List.prefix_refl _⟩
theorem Ps.trans {H H1 H2 : Hp} {ι ι1 ι2 : List Addr} (p : Ps H ι H1 ι1) (q : Ps H1 ι1 H2 ι2) : Ps H ι H2 ι2 := by
  refine ⟨fun a o h r => ?_, fun a h => q.dom a (p.dom a h), fun a h => ?_, p.pre.trans q.pre⟩
  · exact q.keep a o (fun z => by
      rcases p.new a z with z | z
      · exact h z
      · rw [r] at z; cases z) (p.keep a o h r)
  · rcases q.new a h with z | z
    · exact p.new a z
    · refine .inr ?_
      cases e : H a with
      | none => rfl
      | some o => exact absurd z (p.dom a (by rw [e]; simp))
theorem Ps.same {H H' : Hp} {ι : List Addr} (s : Same H H') : Ps H ι H' ι :=
  ⟨fun a o _ r => s _ _ r, fun a h => by
    cases e : H a with
    | none => exact absurd e h
    | some o => rw [s _ _ e]; simp, fun _ h => .inl h, List.prefix_refl _⟩
section
variable {K : PySem.W.Frag} {W : Addr → Prop} {σ : L2.St} {H H' : Hp} {ι ι' : List Addr} {δ : Env} {st st' : Store} {v : V} {s : SV}
theorem Ps.le (p : Ps H ι H' ι') : Le (fz H W ι) (fz H' W ι') := fun a o r => by
  obtain ⟨h1, h2, h3⟩ := fz_of r
  refine ⟨o, ?_, rfl⟩
  rw [fz_at h1 (fun z => ?_)]
  · exact p.keep a o h2 h3
  · rcases p.new a z with z | z
    · exact h2 z
    · rw [h3] at z; cases z
theorem pre_get {α : Type} {l l' : List α} (p : l <+: l') {n : Nat} {a : α} (h : l[n]? = some a) : l'[n]? = some a := by
  obtain ⟨t, rfl⟩ := p
  rw [List.getElem?_append_left (List.getElem?_eq_some_iff.mp h).1]
  exact h
theorem SvR.ps (p : Ps H ι H' ι') (h : SvR K (fz H W ι) ι v s) : SvR K (fz H' W ι') ι' v s := by
  cases s with
  | d x => exact Dr.mono p.le h
  | r n =>
    obtain ⟨a, h1, h2⟩ := h
    exact ⟨a, pre_get p.pre h1, h2⟩
theorem SvAll.ps {vs : List V} {ss : List SV} (p : Ps H ι H' ι') (h : SvAll K (fz H W ι) ι vs ss) : SvAll K (fz H' W ι') ι' vs ss := L2.Paired.mapP h fun _ _ r => SvR.ps p r
theorem same_upd {H : Hp} {p : Addr} {o : HO} (h : H p = none) : Same H (upd H p o) := fun b x e => by
  rw [upd_ne (ne_of_none e h)]
  exact e
theorem Rl.sl' (R : Rl K W σ H ι δ st) {i : Nat} (h : δ[i]? = some (some s)) : ∃ v, σ[i]? = some (some v) ∧ SvR K (fz H W ι) ι v s := R.sl i s h
theorem Sto.ne (R : Sto K W H ι st) {a : Addr} (h : a ∈ ι) : H a ≠ none := by
  obtain ⟨n, hn, e⟩ := List.getElem_of_mem h
  have hs : n < st.length := by rw [← R.len]; exact hn
  have q := R.mo n st[n] a (List.getElem?_eq_getElem hs) (by rw [List.getElem?_eq_getElem hn, e])
  unfold MoR at q
  split at q
  · obtain ⟨xs, h, _⟩ := q; rw [h]; simp
  · obtain ⟨xs, h, _⟩ := q; rw [h]; simp
  · obtain ⟨xs, _, h, _⟩ := q; rw [h]; simp
/-- all that is there stays: the relation stays -/
theorem Sto.same (R : Sto K W H ι st) (s : Same H H') : Sto K W H' ι st := by
  have p : Ps H ι H' ι := Ps.same s
  refine ⟨R.nd, R.len, R.wd, fun a h => p.dom a (R.wn a h), fun n o a h1 h2 => ?_⟩
  have q := R.mo n o a h1 h2
  unfold MoR at q ⊢
  split at q
  · obtain ⟨xs, h, r⟩ := q; exact ⟨xs, s _ _ h, SvAll.ps p r⟩
  · obtain ⟨xs, h, e, r⟩ := q; exact ⟨xs, s _ _ h, e, SvAll.ps p r⟩
  · obtain ⟨dx, xs, h, e, r⟩ := q; exact ⟨dx, xs, s _ _ h, e, SvAll.ps p r⟩
theorem Rl.same (R : Rl K W σ H ι δ st) (s : Same H H') : Rl K W σ H' ι δ st :=
  ⟨R.sto.same s, R.len, fun i x h => let ⟨v, h1, h2⟩ := R.sl i x h; ⟨v, h1, SvR.ps (Ps.same s) h2⟩⟩
theorem Rl.fresh (R : Rl K W σ H ι δ st) {p : Addr} (h : H p = none) : ¬ W p ∧ p ∉ ι := ⟨fun z => R.sto.wn p z h, fun z => R.sto.ne z h⟩
/-- the slots under another store -/
theorem Rl.move (R : Rl K W σ H ι δ st) (p : Ps H ι H' ι') (S : Sto K W H' ι' st') : Rl K W σ H' ι' δ st' :=
  ⟨S, R.len, fun i x h => let ⟨v, h1, h2⟩ := R.sl i x h; ⟨v, h1, SvR.ps p h2⟩⟩
end

/-! ### the judgements -/
abbrev FE := Env → Store → Option (SV × Store)
abbrev FT := Env → Store → Option (Bool × Store)
abbrev FA := Env → Store → Option (List SV × Store)
inductive Out where
  | nx | rt (s : SV) | bk | ct
abbrev FS := Env → Store → Option (Out × Env × Store)

def tE (K : PySem.W.Frag) (f : FE) : TE := fun σ H Q => ∃ W ι δ st s st', Rl K W σ H ι δ st ∧ f δ st = some (s, st') ∧
  ∀ v H' ι', Ps H ι H' ι' → Rl K W σ H' ι' δ st' → SvR K (fz H' W ι') ι' v s → Q v H'
def tT (K : PySem.W.Frag) (f : FT) : TT := fun σ H Q => ∃ W ι δ st b st', Rl K W σ H ι δ st ∧ f δ st = some (b, st') ∧
  ∀ H' ι', Ps H ι H' ι' → Rl K W σ H' ι' δ st' → Q b H'
def tA (K : PySem.W.Frag) (f : FA) : TA := fun σ H Q => ∃ W ι δ st ss st', Rl K W σ H ι δ st ∧ f δ st = some (ss, st') ∧
  ∀ vs H' ι', Ps H ι H' ι' → Rl K W σ H' ι' δ st' → SvAll K (fz H' W ι') ι' vs ss → Q vs H'
def After (K : PySem.W.Frag) (W : Addr → Prop) (ι' : List Addr) (D : Ends) (σ' : L2.St) (H' : Hp) : Out → Prop
  | .nx => D.nx σ' H'
  | .bk => D.bk σ' H'
  | .ct => D.ct σ' H'
  | .rt s => ∀ v, SvR K (fz H' W ι') ι' v s → D.rt v H'
def tS (K : PySem.W.Frag) (g : FS) : TS := fun D σ H => ∃ W ι δ st o δ' st', Rl K W σ H ι δ st ∧ g δ st = some (o, δ', st') ∧
  ∀ σ' H' ι', Ps H ι H' ι' → Rl K W σ' H' ι' δ' st' → After K W ι' D σ' H' o

structure DE (X : Cx) (e : Expr) (f : FE) : Prop where
  pe : PE X e (tE X.K f)
structure DT (X : Cx) (e : Expr) (f : FT) : Prop where
  pt : PT X e (tT X.K f)
structure DW (X : Cx) (e : Expr) (f : FT) : Prop where
  pw : PW X e (tT X.K f)
structure DA (X : Cx) (es : List Expr) (f : FA) : Prop where
  pa : PA X es (tA X.K f)
  len : ∀ δ st p, f δ st = some p → p.1.length = es.length
structure DS (X : Cx) (st : Stmt) (g : FS) : Prop where
  ps : PS X st (tS X.K g)
structure DSs (X : Cx) (st : List Stmt) (g : FS) : Prop where
  ps : PSs X st (tS X.K g)

section
variable {X : Cx}
theorem PE_weak {e : Expr} {t t' : TE} (h : PE X e t) (w : ∀ σ H Q, t' σ H Q → t σ H Q) : PE X e t' := ⟨fun pins s σ H Q I q => h.run pins s σ H Q I (w σ H Q q)⟩
theorem PT_weak {e : Expr} {t t' : TT} (h : PT X e t) (w : ∀ σ H Q, t' σ H Q → t σ H Q) : PT X e t' := ⟨fun pins s σ H Q I q => h.run pins s σ H Q I (w σ H Q q)⟩
theorem PW_weak {e : Expr} {t t' : TT} (h : PW X e t) (w : ∀ σ H Q, t' σ H Q → t σ H Q) : PW X e t' := ⟨fun wh pins s σ H Q I q => h.run wh pins s σ H Q I (w σ H Q q)⟩
theorem PA_weak {es : List Expr} {t t' : TA} (h : PA X es t) (w : ∀ σ H Q, t' σ H Q → t σ H Q) : PA X es t' := ⟨fun pos pins s σ H Q I q => h.run pos pins s σ H Q I (w σ H Q q)⟩
theorem PS_weak {st : Stmt} {t t' : TS} (h : PS X st t) (w : ∀ D σ H, t' D σ H → t D σ H) : PS X st t' := ⟨fun pins s σ H D I q => h.run pins s σ H D I (w D σ H q)⟩
theorem PSs_weak {st : List Stmt} {t t' : TS} (h : PSs X st t) (w : ∀ D σ H, t' D σ H → t D σ H) : PSs X st t' := ⟨fun pins s σ H D I q => h.run pins s σ H D I (w D σ H q)⟩
end
end DL

set_option maxHeartbeats 1000000
/-! DB: expressions and tests. -/
namespace DL
open PySem PySem.Spec L2

/-! ### names, constants -/
def cVar (i : Nat) : FE := fun δ st => (δ[i]?).bind fun o => o.bind fun s => some (s, st)
def cC (d : D) : FE := fun _ st => some (.d d, st)
section
variable {X : Cx}
theorem de_var (i : Nat) {x : Str} {pos : Pos} (hN : X.N[i]? = some x := by rfl) (hv : Vis X.env.scope x := by first | exact Or.inl rfl | exact Or.inr (Or.inl rfl) | exact Or.inr (Or.inr rfl)) (hd : (x == ("__debug__" : Str)) = false := by decide)
    (hcd : (x == ("__classdict__" : Str)) = false := by decide) : DE X (.Name x pos) (cVar i) := by
  refine ⟨PE_weak (pe_var hN hv hd hcd) ?_⟩
  rintro σ H Q ⟨W, ι, δ, st, s, st', R, h, q⟩
  obtain ⟨o, h1, h⟩ := Option.bind_eq_some_iff.mp h
  obtain ⟨s1, h2, h⟩ := Option.bind_eq_some_iff.mp h
  cases h
  subst h2
  obtain ⟨v, e, r⟩ := R.sl i s h1
  exact ⟨v, e, q v H ι (Ps.refl _ _) R r⟩
theorem de_c {e : Expr} {v : V} {d : D} (h : PE X e (tC v)) (r : ∀ F, Dr X.K F v d) : DE X e (cC d) := by
  refine ⟨PE_weak h ?_⟩
  rintro σ H Q ⟨W, ι, δ, st, s, st', R, h, q⟩
  cases h
  exact q v H ι (Ps.refl _ _) R (r _)
theorem de_int {i : Int} {j pos} : DE X (.Constant (.int i) j pos) (cC (.int i)) := de_c pe_int fun _ => .int i
theorem de_bl {b j pos} : DE X (.Constant (.bool b) j pos) (cC (.bl b)) := de_c pe_bl fun _ => .bl b
theorem de_non {j pos} : DE X (.Constant .none j pos) (cC .non) := de_c pe_non fun _ => .non
theorem de_str (s : List Nat) {x : Str} {j pos} (e : x = ⟨s.toArray⟩ := by decide +kernel) (ok : sOk s = true := by decide +kernel) : DE X (.Constant (.str x) j pos) (cC (.str s)) := by
  subst e
  exact de_c pe_str fun _ => .str s ok
/-- a global of the module that is a text -/
theorem de_gstr (s : List Nat) {x : Str} {pos : Pos} {u : Value} (hg : Gl X x) (hm : X.mg x = some u) (r : RelV (.str ⟨s.toArray⟩) u) (ok : sOk s = true := by decide +kernel) (hd : (x == ("__debug__" : Str)) = false := by decide) : DE X (.Name x pos) (cC (.str s)) :=
  de_c (pe_glob hg hm r hd) fun _ => .str s ok
end

/-! ### operators -/
def OpS (K : PySem.W.Frag) (r : R2) (g : Store → SV → SV → Option SV) : Prop := ∀ W σ H ι δ st x y s1 s2 s Q, Rl K W σ H ι δ st → SvR K (fz H W ι) ι x s1 → SvR K (fz H W ι) ι y s2 → g st s1 s2 = some s →
  (∀ v H', Same H H' → SvR K (fz H' W ι) ι v s → Q v H') → r x y H Q
def cOp (g : Store → SV → SV → Option SV) (fa fb : FE) : FE := fun δ st => (fa δ st).bind fun p => (fb δ p.2).bind fun q => (g q.2 p.1 q.1).bind fun s => some (s, q.2)
def UnS (K : PySem.W.Frag) (r : V → Hp → VK → Prop) (g : Store → SV → Option SV) : Prop := ∀ W σ H ι δ st x s1 s Q, Rl K W σ H ι δ st → SvR K (fz H W ι) ι x s1 → g st s1 = some s →
  (∀ v H', Same H H' → SvR K (fz H' W ι) ι v s → Q v H') → r x H Q
def cUn (g : Store → SV → Option SV) (fa : FE) : FE := fun δ st => (fa δ st).bind fun p => (g p.2 p.1).bind fun s => some (s, p.2)
section
variable {X : Cx} {a b : Expr} {fa fb : FE} {pos : Pos}
theorem op_weak {K : PySem.W.Frag} {r : R2} {g : Store → SV → SV → Option SV} (hs : OpS K r g) {σ : L2.St} {H : Hp} {Q : VK} (t : tE K (cOp g fa fb) σ H Q) : tOp r (tE K fa) (tE K fb) σ H Q := by
  obtain ⟨W, ι, δ, st, s, st', R, h, q⟩ := t
  obtain ⟨p, h1, h⟩ := Option.bind_eq_some_iff.mp h
  obtain ⟨p2, h2, h⟩ := Option.bind_eq_some_iff.mp h
  obtain ⟨s3, h3, h⟩ := Option.bind_eq_some_iff.mp h
  cases h
  refine ⟨W, ι, δ, st, p.1, p.2, R, h1, fun v1 H1 ι1 P1 R1 r1 => ⟨W, ι1, δ, p.2, p2.1, p2.2, R1, h2, fun v2 H2 ι2 P2 R2 r2 => ?_⟩⟩
  refine hs W σ H2 ι2 δ p2.2 v1 v2 p.1 p2.1 s Q R2 (r1.ps P2) r2 h3 fun v H' S r => ?_
  exact q v H' ι2 ((P1.trans P2).trans (Ps.same S)) (R2.same S) r
theorem de_op {op : Operator} {r : R2} {g : Store → SV → SV → Option SV} (ho : OpR X (binaryOp op) r) (hs : OpS X.K r g) (ha : DE X a fa) (hb : DE X b fb) : DE X (.BinOp a op b pos) (cOp g fa fb) :=
  ⟨PE_weak (pe_op ho ha.pe hb.pe) fun _ _ _ t => op_weak hs t⟩
theorem de_cmp {op : CmpOp} {r : R2} {g : Store → SV → SV → Option SV} (ho : OpR X (compareOp op) r) (hs : OpS X.K r g) (ha : DE X a fa) (hb : DE X b fb) (hm : behindInMarks op b = false) : DE X (.Compare a [op] [b] pos) (cOp g fa fb) :=
  ⟨PE_weak (pe_cmpR ho ha.pe hb.pe hm) fun _ _ _ t => op_weak hs t⟩
theorem de_un {op : UnaryOp} {r : V → Hp → VK → Prop} {g : Store → SV → Option SV} (ho : UnR X (unaryOp op) r) (hs : UnS X.K r g) (ha : DE X a fa) : DE X (.UnaryOp op a pos) (cUn g fa) := by
  refine ⟨PE_weak (pe_un ho ha.pe) ?_⟩
  rintro σ H Q ⟨W, ι, δ, st, s, st', R, h, q⟩
  obtain ⟨p, h1, h⟩ := Option.bind_eq_some_iff.mp h
  obtain ⟨s3, h3, h⟩ := Option.bind_eq_some_iff.mp h
  cases h
  refine ⟨W, ι, δ, st, p.1, p.2, R, h1, fun v1 H1 ι1 P1 R1 r1 => ?_⟩
  exact hs W σ H1 ι1 δ p.2 v1 p.1 s Q R1 r1 h3 fun v H' S r => q v H' ι1 (P1.trans (Ps.same S)) (R1.same S) r
theorem de_ix {r : R2} {g : Store → SV → SV → Option SV} (ho : IxR X r) (hs : OpS X.K r g) (ha : DE X a fa) (hb : DE X b fb) (hp : PlainIx b := by intro _ _; rfl) : DE X (.Subscript a b pos) (cOp g fa fb) :=
  ⟨PE_weak (pe_ix ho ha.pe hb.pe hp) fun _ _ _ t => op_weak hs t⟩
theorem OpS.or {K : PySem.W.Frag} {r r' : R2} {g g' : Store → SV → SV → Option SV} (h : OpS K r g) (h' : OpS K r' g') : OpS K (fun x y H Q => r x y H Q ∨ r' x y H Q) (fun st a b => (g st a b).or (g' st a b)) := by
  intro W σ H ι δ st x y s1 s2 s Q R r1 r2 e q
  have e : (g st s1 s2).or (g' st s1 s2) = some s := e
  cases e1 : g st s1 s2 with
  | some z =>
    rw [e1] at e
    cases e
    exact .inl (h W σ H ι δ st x y s1 s2 _ Q R r1 r2 e1 q)
  | none =>
    rw [e1] at e
    exact .inr (h' W σ H ι δ st x y s1 s2 s Q R r1 r2 (by simpa using e) q)

/-- a chain of two comparisons, b asked once -/
def cChain (g g' : Store → SV → SV → Option SV) (fa fb fc : FE) : FE := fun δ st => (fa δ st).bind fun p => (fb δ p.2).bind fun q => (g q.2 p.1 q.1).bind fun s =>
  match s with
  | .d (.bl true) => (fc δ q.2).bind fun u => (g' u.2 q.1 u.1).bind fun z => some (z, u.2)
  | .d (.bl false) => some (.d (.bl false), q.2)
  | _ => none
end

/-! ### tests -/
def cTest (f : FE) : FT := fun δ st => (f δ st).bind fun p => match p.1 with | .d (.bl b) => some (b, p.2) | _ => none
theorem dr_bl {K : PySem.W.Frag} {F : Hp} {ι : List Addr} {v : V} {b : Bool} (h : SvR K F ι v (.d (.bl b))) : v = .bl b := by
  have h' : Dr K F v (.bl b) := h
  cases h'
  rfl
section
variable {X : Cx} {a b c : Expr} {fa fb fc : FE} {pos : Pos} {ta tb : FT} {rest : List Expr}
theorem test_weak {K : PySem.W.Frag} {f : FE} {σ : L2.St} {H : Hp} {Q : Bool → Hp → Prop} (t : tT K (cTest f) σ H Q) : tTest (tE K f) σ H Q := by
  obtain ⟨W, ι, δ, st, b, st', R, h, q⟩ := t
  obtain ⟨p, h1, h⟩ := Option.bind_eq_some_iff.mp h
  refine ⟨W, ι, δ, st, p.1, p.2, R, h1, fun v1 H1 ι1 P1 R1 r1 => ?_⟩
  split at h
  · rename_i b' e
    cases h
    rw [e] at r1
    exact ⟨b, dr_bl r1, q H1 ι1 P1 R1⟩
  · cases h
theorem dt_cmp {op : CmpOp} {r : R2} {g : Store → SV → SV → Option SV} (ho : OpR X (compareOp op) r) (hs : OpS X.K r g) (ha : DE X a fa) (hb : DE X b fb) (hm : behindInMarks op b = false) : DT X (.Compare a [op] [b] pos) (cTest (cOp g fa fb)) :=
  ⟨PT_weak (pt_cmpR ho ha.pe hb.pe hm) fun σ H Q t => by
    have t1 := test_weak t
    exact op_weak hs t1⟩
theorem dt_val {e : Expr} {f : FE} (h : DE X e f) (he : ∀ whole, isTrue e X.env whole = (do let v ← whole; standAt e.pos; holding [v] (truthy v)) := by intro _; rfl) : DT X e (cTest f) :=
  ⟨PT_weak (pt_val h.pe he) fun σ H Q t => test_weak t⟩

theorem chain_weak {K : PySem.W.Frag} {r r' : R2} {g g' : Store → SV → SV → Option SV} (hs : OpS K r g) (hs' : OpS K r' g') {σ : L2.St} {H : Hp} {Q : VK} (t : tE K (cChain g g' fa fb fc) σ H Q) :
    tChain r r' (tE K fa) (tE K fb) (tE K fc) σ H Q := by
  obtain ⟨W, ι, δ, st, s, st', R, h, q⟩ := t
  obtain ⟨p, h1, h⟩ := Option.bind_eq_some_iff.mp h
  obtain ⟨p2, h2, h⟩ := Option.bind_eq_some_iff.mp h
  obtain ⟨s3, h3, h⟩ := Option.bind_eq_some_iff.mp h
  refine ⟨W, ι, δ, st, p.1, p.2, R, h1, fun v1 H1 ι1 P1 R1 r1 => ⟨W, ι1, δ, p.2, p2.1, p2.2, R1, h2, fun v2 H2 ι2 P2 R2 r2 => ?_⟩⟩
  refine hs W σ H2 ι2 δ p2.2 v1 v2 p.1 p2.1 s3 _ R2 (r1.ps P2) r2 h3 fun v H' S r => ?_
  split at h
  · have e := dr_bl r
    subst e
    refine ⟨true, rfl, ?_⟩
    rw [if_pos rfl]
    obtain ⟨u, h4, h⟩ := Option.bind_eq_some_iff.mp h
    obtain ⟨z, h5, h⟩ := Option.bind_eq_some_iff.mp h
    cases h
    refine ⟨W, ι2, δ, p2.2, u.1, u.2, R2.same S, h4, fun v4 H4 ι4 P4 R4 r4 => ?_⟩
    refine hs' W σ H4 ι4 δ u.2 v2 v4 p2.1 u.1 _ Q R4 ((r2.ps (Ps.same S)).ps P4) r4 h5 fun v5 H5 S5 r5 => ?_
    exact q v5 H5 ι4 ((((P1.trans P2).trans (Ps.same S)).trans P4).trans (Ps.same S5)) (R4.same S5) r5
  · have e := dr_bl r
    subst e
    cases h
    refine ⟨false, rfl, ?_⟩
    rw [if_neg Bool.false_ne_true]
    exact q _ H' ι2 ((P1.trans P2).trans (Ps.same S)) (R2.same S) r
  · cases h
theorem de_chain {op op' : CmpOp} {r r' : R2} {g g' : Store → SV → SV → Option SV} (ho : OpR X (compareOp op) r) (hs : OpS X.K r g) (ho' : OpR X (compareOp op') r') (hs' : OpS X.K r' g') (ha : DE X a fa) (hb : DE X b fb) (hc : DE X c fc)
    (hm : lastMarks [op, op'] [b, c] = false := by with_unfolding_all rfl) : DE X (.Compare a [op, op'] [b, c] pos) (cChain g g' fa fb fc) := ⟨PE_weak (pe_chain ho ho' ha.pe hb.pe hc.pe hm) fun _ _ _ t => chain_weak hs hs' t⟩
theorem dt_chain {op op' : CmpOp} {r r' : R2} {g g' : Store → SV → SV → Option SV} (ho : OpR X (compareOp op) r) (hs : OpS X.K r g) (ho' : OpR X (compareOp op') r') (hs' : OpS X.K r' g') (ha : DE X a fa) (hb : DE X b fb) (hc : DE X c fc)
    (hm : lastMarks [op, op'] [b, c] = false := by with_unfolding_all rfl) : DT X (.Compare a [op, op'] [b, c] pos) (cTest (cChain g g' fa fb fc)) := ⟨PT_weak (pt_chain ho ho' ha.pe hb.pe hc.pe hm) fun σ H Q t => by
    have t1 := test_weak t
    exact chain_weak hs hs' t1⟩

/-! ### and, or, not, if -/
def cAnd (t u : FT) : FT := fun δ st => (t δ st).bind fun p => if p.1 = true then u δ p.2 else some (false, p.2)
def cOr (t u : FT) : FT := fun δ st => (t δ st).bind fun p => if p.1 = true then some (true, p.2) else u δ p.2
def cNot (t : FT) : FT := fun δ st => (t δ st).bind fun p => some (!p.1, p.2)
def cAndV (f g : FE) : FE := fun δ st => (f δ st).bind fun p => match p.1 with
  | .d (.bl true) => g δ p.2
  | .d (.bl false) => some (.d (.bl false), p.2)
  | _ => none
def cOrV (f g : FE) : FE := fun δ st => (f δ st).bind fun p => match p.1 with
  | .d (.bl true) => some (.d (.bl true), p.2)
  | .d (.bl false) => g δ p.2
  | _ => none
def cNotV (f : FE) : FE := fun δ st => (f δ st).bind fun p => match p.1 with
  | .d (.bl b) => some (.d (.bl (!b)), p.2)
  | _ => none
def cIf (t : FT) (f g : FE) : FE := fun δ st => (t δ st).bind fun p => if p.1 = true then f δ p.2 else g δ p.2
theorem dw_and1 (ha : DT X a ta) : DW X (.BoolOp .And [a] pos) ta := ⟨pw_and1 ha.pt⟩
theorem dw_or1 (ha : DT X a ta) : DW X (.BoolOp .Or [a] pos) ta := ⟨pw_or1 ha.pt⟩
theorem dw_and (ha : DT X a ta) (hb : DW X (.BoolOp .And (b :: rest) pos) tb) : DW X (.BoolOp .And (a :: b :: rest) pos) (cAnd ta tb) := by
  refine ⟨PW_weak (pw_and ha.pt hb.pw) ?_⟩
  rintro σ H Q ⟨W, ι, δ, st, s, st', R, h, q⟩
  obtain ⟨p, h1, h⟩ := Option.bind_eq_some_iff.mp h
  refine ⟨W, ι, δ, st, p.1, p.2, R, h1, fun H1 ι1 P1 R1 => ?_⟩
  cases e : p.1 with
  | true =>
    rw [if_pos e] at h
    rw [if_pos rfl]
    exact ⟨W, ι1, δ, p.2, s, st', R1, h, fun H2 ι2 P2 R2 => q H2 ι2 (P1.trans P2) R2⟩
  | false =>
    rw [e] at h
    cases h
    rw [if_neg Bool.false_ne_true]
    exact q H1 ι1 P1 R1
theorem dw_or (ha : DT X a ta) (hb : DW X (.BoolOp .Or (b :: rest) pos) tb) : DW X (.BoolOp .Or (a :: b :: rest) pos) (cOr ta tb) := by
  refine ⟨PW_weak (pw_or ha.pt hb.pw) ?_⟩
  rintro σ H Q ⟨W, ι, δ, st, s, st', R, h, q⟩
  obtain ⟨p, h1, h⟩ := Option.bind_eq_some_iff.mp h
  refine ⟨W, ι, δ, st, p.1, p.2, R, h1, fun H1 ι1 P1 R1 => ?_⟩
  cases e : p.1 with
  | true =>
    rw [if_pos e] at h
    cases h
    rw [if_pos rfl]
    exact q H1 ι1 P1 R1
  | false =>
    rw [e] at h
    rw [if_neg Bool.false_ne_true]
    exact ⟨W, ι1, δ, p.2, s, st', R1, h, fun H2 ι2 P2 R2 => q H2 ι2 (P1.trans P2) R2⟩
theorem DW.dt {e : Expr} (h : DW X e ta) : DT X e ta := ⟨h.pw.pt⟩
theorem dt_not (ha : DT X a ta) : DT X (.UnaryOp .Not a pos) (cNot ta) := by
  refine ⟨PT_weak (pt_not ha.pt) ?_⟩
  rintro σ H Q ⟨W, ι, δ, st, s, st', R, h, q⟩
  obtain ⟨p, h1, h⟩ := Option.bind_eq_some_iff.mp h
  cases h
  exact ⟨W, ι, δ, st, p.1, p.2, R, h1, fun H1 ι1 P1 R1 => q H1 ι1 P1 R1⟩
theorem de_one {op : BoolOp} {f : FE} (h : DE X a f) : DE X (.BoolOp op [a] pos) f := ⟨pe_one h.pe⟩
theorem de_and (ha : DE X a fa) (hb : DE X (.BoolOp .And (b :: rest) pos) fb) : DE X (.BoolOp .And (a :: b :: rest) pos) (cAndV fa fb) := by
  refine ⟨PE_weak (pe_and ha.pe hb.pe) ?_⟩
  rintro σ H Q ⟨W, ι, δ, st, s, st', R, h, q⟩
  obtain ⟨p, h1, h⟩ := Option.bind_eq_some_iff.mp h
  refine ⟨W, ι, δ, st, p.1, p.2, R, h1, fun v H1 ι1 P1 R1 r1 => ?_⟩
  split at h
  · rename_i e
    rw [e] at r1
    exact ⟨true, dr_bl r1, (if_pos rfl).mpr ⟨W, ι1, δ, p.2, s, st', R1, h, fun v2 H2 ι2 P2 R2 r2 => q v2 H2 ι2 (P1.trans P2) R2 r2⟩⟩
  · rename_i e
    rw [e] at r1
    cases h
    exact ⟨false, dr_bl r1, (if_neg Bool.false_ne_true).mpr (q _ H1 ι1 P1 R1 (Dr.bl false))⟩
  · cases h
theorem de_or (ha : DE X a fa) (hb : DE X (.BoolOp .Or (b :: rest) pos) fb) : DE X (.BoolOp .Or (a :: b :: rest) pos) (cOrV fa fb) := by
  refine ⟨PE_weak (pe_or ha.pe hb.pe) ?_⟩
  rintro σ H Q ⟨W, ι, δ, st, s, st', R, h, q⟩
  obtain ⟨p, h1, h⟩ := Option.bind_eq_some_iff.mp h
  refine ⟨W, ι, δ, st, p.1, p.2, R, h1, fun v H1 ι1 P1 R1 r1 => ?_⟩
  split at h
  · rename_i e
    rw [e] at r1
    cases h
    exact ⟨true, dr_bl r1, (if_pos rfl).mpr (q _ H1 ι1 P1 R1 (Dr.bl true))⟩
  · rename_i e
    rw [e] at r1
    exact ⟨false, dr_bl r1, (if_neg Bool.false_ne_true).mpr ⟨W, ι1, δ, p.2, s, st', R1, h, fun v2 H2 ι2 P2 R2 r2 => q v2 H2 ι2 (P1.trans P2) R2 r2⟩⟩
  · cases h
theorem de_not (ha : DE X a fa) : DE X (.UnaryOp .Not a pos) (cNotV fa) := by
  refine ⟨PE_weak (pe_not ha.pe) ?_⟩
  rintro σ H Q ⟨W, ι, δ, st, s, st', R, h, q⟩
  obtain ⟨p, h1, h⟩ := Option.bind_eq_some_iff.mp h
  refine ⟨W, ι, δ, st, p.1, p.2, R, h1, fun v H1 ι1 P1 R1 r1 => ?_⟩
  split at h
  · rename_i b e
    rw [e] at r1
    cases h
    exact ⟨b, dr_bl r1, q _ H1 ι1 P1 R1 (Dr.bl _)⟩
  · cases h
theorem de_if (hc : DT X c ta) (ha : DE X a fa) (hb : DE X b fb) : DE X (.IfExp c a b pos) (cIf ta fa fb) := by
  refine ⟨PE_weak (pe_ifExp hc.pt ha.pe hb.pe) ?_⟩
  rintro σ H Q ⟨W, ι, δ, st, s, st', R, h, q⟩
  obtain ⟨p, h1, h⟩ := Option.bind_eq_some_iff.mp h
  refine ⟨W, ι, δ, st, p.1, p.2, R, h1, fun H1 ι1 P1 R1 => ?_⟩
  cases e : p.1 with
  | true =>
    rw [if_pos e] at h
    exact (if_pos rfl).mpr ⟨W, ι1, δ, p.2, s, st', R1, h, fun v2 H2 ι2 P2 R2 r2 => q v2 H2 ι2 (P1.trans P2) R2 r2⟩
  | false =>
    rw [if_neg (by rw [e]; exact Bool.false_ne_true)] at h
    exact (if_neg Bool.false_ne_true).mpr ⟨W, ι1, δ, p.2, s, st', R1, h, fun v2 H2 ι2 P2 R2 r2 => q v2 H2 ι2 (P1.trans P2) R2 r2⟩
end

/-! ### arguments, displays -/
def asD : SV → Option D
  | .d x => some x
  | .r _ => none
def dataAll : List SV → Option (List D)
  | [] => some []
  | .d x :: r => (dataAll r).map (x :: ·)
  | .r _ :: _ => none
theorem dataAll_map (ds : List D) : dataAll (ds.map SV.d) = some ds := by
  induction ds with
  | nil => rfl
  | cons x r ih => rw [List.map_cons, dataAll, ih]; rfl
theorem dataAll_eq : ∀ {ss : List SV} {ds : List D}, dataAll ss = some ds → ss = ds.map SV.d
  | [], ds, h => by cases h; rfl
  | .d x :: r, ds, h => by
    rw [dataAll] at h
    obtain ⟨d2, e1, e2⟩ := Option.map_eq_some_iff.mp h
    subst e2
    rw [List.map_cons, dataAll_eq e1]
  | .r _ :: _, ds, h => by cases h
theorem drAll_of {K : PySem.W.Frag} {F : Hp} {ι : List Addr} : ∀ {ds : List D} {xs : List V}, SvAll K F ι xs (ds.map SV.d) → DrAll K F xs ds
  | [], _, .nil => .nil
  | d :: ds, _, .cons h r => .cons h (drAll_of r)
theorem of_drAll {K : PySem.W.Frag} {F : Hp} {ι : List Addr} : ∀ {ds : List D} {xs : List V}, DrAll K F xs ds → SvAll K F ι xs (ds.map SV.d)
  | [], _, .nil => .nil
  | d :: ds, _, .cons h r => .cons h (of_drAll r)
def cNil : FA := fun _ st => some ([], st)
def cCons (f : FE) (fs : FA) : FA := fun δ st => (f δ st).bind fun p => (fs δ p.2).bind fun q => some (p.1 :: q.1, q.2)
def cTup (fs : FA) : FE := fun δ st => (fs δ st).bind fun p => (dataAll p.1).bind fun ds => some (.d (.tup ds), p.2)
/-- a list that is not changed -/
def cLst (fs : FA) : FE := fun δ st => (fs δ st).bind fun p => (dataAll p.1).bind fun ds => some (.d (.lst ds), p.2)
/-- a list that will be changed -/
def cNew (fs : FA) : FE := fun δ st => (fs δ st).bind fun p => some (.r p.2.length, p.2 ++ [.lst p.1])
section
variable {X : Cx} {e : Expr} {es : List Expr} {f : FE} {fs : FA} {pos : Pos}
theorem da_nil : DA X [] cNil := by
  refine ⟨PA_weak pa_nil ?_, fun δ st p h => by cases h; rfl⟩
  rintro σ H Q ⟨W, ι, δ, st, s, st', R, h, q⟩
  cases h
  exact q [] H ι (Ps.refl _ _) R .nil
theorem da_cons (ha : DE X e f) (hr : DA X es fs) (hs : starEach (e :: es) X.env = (false, eval e X.env) :: starEach es X.env := by rfl) : DA X (e :: es) (cCons f fs) := by
  refine ⟨PA_weak (pa_cons ha.pe hr.pa hs) ?_, fun δ st p h => ?_⟩
  · rintro σ H Q ⟨W, ι, δ, st, s, st', R, h, q⟩
    obtain ⟨p, h1, h⟩ := Option.bind_eq_some_iff.mp h
    obtain ⟨p2, h2, h⟩ := Option.bind_eq_some_iff.mp h
    cases h
    refine ⟨W, ι, δ, st, p.1, p.2, R, h1, fun v H1 ι1 P1 R1 r1 => ⟨W, ι1, δ, p.2, p2.1, p2.2, R1, h2, fun vs H2 ι2 P2 R2 r2 => ?_⟩⟩
    exact q _ H2 ι2 (P1.trans P2) R2 (.cons (r1.ps P2) r2)
  · obtain ⟨p1, h1, h⟩ := Option.bind_eq_some_iff.mp h
    obtain ⟨p2, h2, h⟩ := Option.bind_eq_some_iff.mp h
    cases h
    rw [List.length_cons, List.length_cons, hr.len _ _ _ h2]
theorem small_line {n : Nat} (h : n ≤ 100000) : n ≤ sizeLine := by rw [sizeLine_eq]; omega
/-- a new object that is not written any more -/
theorem fresh_fz {W : Addr → Prop} {σ : L2.St} {H : Hp} {ι : List Addr} {δ : Env} {st : Store} {K : PySem.W.Frag} (R : Rl K W σ H ι δ st) {p : Addr} {o : HO} (h : H p = none) : fz (upd H p o) W ι p = some o := by
  obtain ⟨h1, h2⟩ := R.fresh h
  rw [fz_at h1 h2, upd_same]
theorem de_tup {j} (h : DA X es fs) (hl : es.length ≤ 100000 := by decide) : DE X (.Tuple es j pos) (cTup fs) := by
  refine ⟨PE_weak (pe_tup h.pa) ?_⟩
  rintro σ H Q ⟨W, ι, δ, st, s, st', R, e, q⟩
  obtain ⟨p, h1, e⟩ := Option.bind_eq_some_iff.mp e
  obtain ⟨ds, h2, e⟩ := Option.bind_eq_some_iff.mp e
  cases e
  refine ⟨W, ι, δ, st, p.1, p.2, R, h1, fun vs H1 ι1 P1 R1 r1 => ?_⟩
  have hlen : vs.length = p.1.length := Paired.length r1
  refine ⟨small_line (by rw [hlen, h.len _ _ _ h1]; exact hl), fun a ha => ?_⟩
  have S := same_upd (o := .tup vs) ha
  rw [dataAll_eq h2] at r1
  refine q _ _ ι1 (P1.trans (Ps.same S)) (R1.same S) ?_
  exact Dr.tup (xs := vs) (.inl (.inl (fresh_fz R1 ha))) (DrAll.mono (Ps.same S).le (drAll_of r1))
theorem de_lst (h : DA X es fs) (hl : es.length ≤ 100000 := by decide) : DE X (.List es pos) (cLst fs) := by
  refine ⟨PE_weak (pe_lst h.pa) ?_⟩
  rintro σ H Q ⟨W, ι, δ, st, s, st', R, e, q⟩
  obtain ⟨p, h1, e⟩ := Option.bind_eq_some_iff.mp e
  obtain ⟨ds, h2, e⟩ := Option.bind_eq_some_iff.mp e
  cases e
  refine ⟨W, ι, δ, st, p.1, p.2, R, h1, fun vs H1 ι1 P1 R1 r1 => ?_⟩
  have hlen : vs.length = p.1.length := Paired.length r1
  refine ⟨small_line (by rw [hlen, h.len _ _ _ h1]; exact hl), fun a ha => ?_⟩
  have S := same_upd (o := .lst vs) ha
  rw [dataAll_eq h2] at r1
  refine q _ _ ι1 (P1.trans (Ps.same S)) (R1.same S) ?_
  exact Dr.lst (xs := vs) (fresh_fz R1 ha) (DrAll.mono (Ps.same S).le (drAll_of r1))
/-- a new object goes into the store -/
theorem MoR.mono {K : PySem.W.Frag} {F F' H H' : Hp} {ι ι' : List Addr} {a : Addr} {o : MO} (h : MoR K F H ι a o) (hf : Le F F') (hp : ι <+: ι') (ha : ∀ u, H a = some u → H' a = some u) : MoR K F' H' ι' a o := by
  have sv : ∀ {vs : List V} {ss : List SV}, SvAll K F ι vs ss → SvAll K F' ι' vs ss := fun r => L2.Paired.mapP r fun v s r => by
    cases s with
    | d x => exact Dr.mono hf r
    | r n => obtain ⟨b, h1, h2⟩ := r; exact ⟨b, pre_get hp h1, h2⟩
  unfold MoR at h ⊢
  split at h
  · obtain ⟨xs, h, r⟩ := h; exact ⟨xs, ha _ h, sv r⟩
  · obtain ⟨xs, h, e, r⟩ := h; exact ⟨xs, ha _ h, e, sv r⟩
  · obtain ⟨dx, xs, h, e, r⟩ := h; exact ⟨dx, xs, ha _ h, e, sv r⟩
theorem sto_new {K : PySem.W.Frag} {W : Addr → Prop} {σ : L2.St} {H H' : Hp} {ι : List Addr} {δ : Env} {st : Store} {a : Addr} {o : MO} (R : Rl K W σ H ι δ st) (ha : H a = none) (S : Same H H')
    (new : ∀ F', Le (fz H W ι) F' → MoR K F' H' (ι ++ [a]) a o) (hn : H' a ≠ none) :
    Ps H ι H' (ι ++ [a]) ∧ Rl K W σ H' (ι ++ [a]) δ (st ++ [o]) := by
  obtain ⟨hw, hi⟩ := R.fresh ha
  have P : Ps H ι H' (ι ++ [a]) := by
    refine ⟨fun b u _ r => S _ _ r, (Ps.same (ι := ι) S).dom, fun b hb => ?_, ⟨[a], rfl⟩⟩
    rcases List.mem_append.mp hb with h | h
    · exact .inl h
    · simp at h; subst h; exact .inr ha
  refine ⟨P, R.move P ⟨?_, by simp [R.sto.len], ?_, fun b hb => (Ps.same (ι := ι) S).dom b (R.sto.wn b hb), fun n u b h1 h2 => ?_⟩⟩
  · rw [List.nodup_append]
    refine ⟨R.sto.nd, by simp, fun x hx y hy e => ?_⟩
    simp at hy
    subst hy e
    exact hi hx
  · intro b hb
    rcases List.mem_append.mp hb with h | h
    · exact R.sto.wd b h
    · simp at h; subst h; exact hw
  · by_cases hn : n < st.length
    · rw [List.getElem?_append_left hn] at h1
      rw [List.getElem?_append_left (by rw [R.sto.len]; exact hn)] at h2
      exact (R.sto.mo n u b h1 h2).mono P.le P.pre fun u q => S _ _ q
    · have hl : n < st.length + 1 := by
        have := (List.getElem?_eq_some_iff.mp h1).1
        simpa using this
      have e : n = st.length := by omega
      subst e
      rw [List.getElem?_append_right (Nat.le_refl _)] at h1
      rw [List.getElem?_append_right (by rw [R.sto.len]; exact Nat.le_refl _)] at h2
      simp [R.sto.len] at h1 h2
      subst h1 h2
      exact new _ P.le
theorem de_new (h : DA X es fs) (hl : es.length ≤ 100000 := by decide) : DE X (.List es pos) (cNew fs) := by
  refine ⟨PE_weak (pe_lst h.pa) ?_⟩
  rintro σ H Q ⟨W, ι, δ, st, s, st', R, e, q⟩
  obtain ⟨p, h1, e⟩ := Option.bind_eq_some_iff.mp e
  cases e
  refine ⟨W, ι, δ, st, p.1, p.2, R, h1, fun vs H1 ι1 P1 R1 r1 => ?_⟩
  have hlen : vs.length = p.1.length := Paired.length r1
  refine ⟨small_line (by rw [hlen, h.len _ _ _ h1]; exact hl), fun a ha => ?_⟩
  have S := same_upd (o := .lst vs) ha
  obtain ⟨P2, R2⟩ := sto_new (o := .lst p.1) R1 ha S (fun F' l => ⟨vs, upd_same, L2.Paired.mapP r1 fun v s r => by
    cases s with
    | d x => exact Dr.mono l r
    | r n => obtain ⟨b, h1, h2⟩ := r; exact ⟨b, pre_get ⟨[a], rfl⟩ h1, h2⟩⟩) (by rw [upd_same]; simp)
  refine q _ _ (ι1 ++ [a]) (P1.trans P2) R2 ⟨a, ?_, rfl⟩
  rw [← R1.sto.len, List.getElem?_append_right (Nat.le_refl _)]
  simp
end
end DL

set_option maxHeartbeats 1000000
/-! DC: operators on data. -/
namespace DL
open PySem PySem.Spec L2

/-! ### reading -/
def items (st : Store) : SV → Option (List SV)
  | .d (.tup ds) => some (ds.map .d)
  | .d (.lst ds) => some (ds.map .d)
  | .r n => match st[n]? with
    | some (.lst ss) => some ss
    | _ => none
  | _ => none
def toD (st : Store) : SV → Option D
  | .d x => some x
  | .r n => match st[n]? with
    | some (.lst ss) => (dataAll ss).map .lst
    | some (.dk es) => (dataAll (es.map (·.2))).map fun ds => .dk ((es.map (·.1)).zip ds)
    | _ => none
/-- a list of data -/
def litems (st : Store) : SV → Option (List D)
  | .d (.lst ds) => some ds
  | .r n => match st[n]? with
    | some (.lst ss) => dataAll ss
    | _ => none
  | _ => none
/-- a list or tuple of data -/
def ditems (st : Store) (s : SV) : Option (List D) := (items st s).bind dataAll
section
variable {K : PySem.W.Frag} {W : Addr → Prop} {H : Hp} {ι : List Addr} {st : Store} {v : V} {s : SV}
theorem Sto.r (R : Sto K W H ι st) {n : Nat} {o : MO} (h : SvR K (fz H W ι) ι v (.r n)) (e : st[n]? = some o) : ∃ a, ι[n]? = some a ∧ v = .ref a ∧ MoR K (fz H W ι) H ι a o := by
  obtain ⟨a, h1, h2⟩ := h
  exact ⟨a, h1, h2, R.mo n o a e h1⟩
theorem items_ok (R : Sto K W H ι st) (h : SvR K (fz H W ι) ι v s) {ss : List SV} (e : items st s = some ss) :
    ∃ a xs, v = .ref a ∧ ((H a = some (.lst xs) ∧ SqL K H a xs) ∨ SqT K H a xs) ∧ SvAll K (fz H W ι) ι xs ss := by
  unfold items at e
  split at e
  · cases e
    have h' : Dr K (fz H W ι) v (.tup _) := h
    cases h' with
    | tup q r => exact ⟨_, _, rfl, .inr (le_fz.seqT q), of_drAll r⟩
  · cases e
    have h' : Dr K (fz H W ι) v (.lst _) := h
    cases h' with
    | lst q r => exact ⟨_, _, rfl, .inl ⟨le_fz.lst q, .of (le_fz.lst q)⟩, of_drAll r⟩
  · rename_i n
    split at e
    · rename_i e2
      cases e
      obtain ⟨a, h1, rfl, xs, h3, h4⟩ := R.r h e2
      exact ⟨a, xs, rfl, .inl ⟨h3, .of h3⟩, h4⟩
    · cases e
  · cases e
theorem litems_ok (R : Sto K W H ι st) (h : SvR K (fz H W ι) ι v s) {ds : List D} (e : litems st s = some ds) : ∃ a xs, v = .ref a ∧ H a = some (.lst xs) ∧ DrAll K (fz H W ι) xs ds := by
  unfold litems at e
  split at e
  · cases e
    have h' : Dr K (fz H W ι) v (.lst _) := h
    cases h' with
    | lst q r => exact ⟨_, _, rfl, le_fz.lst q, r⟩
  · split at e
    · rename_i e2
      obtain ⟨a, h1, rfl, xs, h3, h4⟩ := R.r h e2
      rw [dataAll_eq e] at h4
      exact ⟨a, xs, rfl, h3, drAll_of h4⟩
    · cases e
  · cases e
theorem ditems_ok (R : Sto K W H ι st) (h : SvR K (fz H W ι) ι v s) {ds : List D} (e : ditems st s = some ds) :
    ∃ a xs, v = .ref a ∧ ((H a = some (.lst xs) ∧ SqL K H a xs) ∨ SqT K H a xs) ∧ DrAll K (fz H W ι) xs ds := by
  obtain ⟨ss, h1, h2⟩ := Option.bind_eq_some_iff.mp e
  obtain ⟨a, xs, e1, e2, e3⟩ := items_ok R h h1
  rw [dataAll_eq h2] at e3
  exact ⟨a, xs, e1, e2, drAll_of e3⟩
theorem toD_ok (R : Sto K W H ι st) (h : SvR K (fz H W ι) ι v s) {d : D} (e : toD st s = some d) : Dr K H v d := by
  unfold toD at e
  split at e
  · cases e
    exact Dr.mono le_fz h
  · rename_i n
    split at e
    · rename_i ss e2
      obtain ⟨ds, h1, h2⟩ := Option.map_eq_some_iff.mp e
      subst h2
      obtain ⟨a, h1', rfl, xs, h3, h4⟩ := R.r h e2
      rw [dataAll_eq h1] at h4
      exact .lst h3 (DrAll.mono le_fz (drAll_of h4))
    · rename_i es e2
      obtain ⟨ds, h1, h2⟩ := Option.map_eq_some_iff.mp e
      subst h2
      obtain ⟨a, h1', rfl, kvs, h3, h4, h5⟩ := R.r h e2
      rw [dataAll_eq h1] at h5
      have hl : (es.map (·.1)).length = ds.length := by
        have e1 := congrArg List.length (dataAll_eq h1)
        simpa using e1
      have hz1 : ((es.map (·.1)).zip ds).map (·.1) = es.map (·.1) := List.map_fst_zip (Nat.le_of_eq hl)
      have hz2 : ((es.map (·.1)).zip ds).map (·.2) = ds := List.map_snd_zip (Nat.le_of_eq hl.symm)
      exact .dk (kvs := kvs) h3 rfl (by rw [hz1]; exact h4) (by rw [hz2]; exact DrAll.mono le_fz (drAll_of h5))
    · cases e
end

/-! ### equality of data -/
mutual
def D.eqv : D → D → Bool
  | .non, .non => true
  | .bl a, .bl b => a == b
  | .bl a, .int j => (if a then 1 else 0) == j
  | .int i, .bl b => i == (if b then 1 else 0)
  | .int i, .int j => i == j
  | .str x, .str y => x == y
  | .lst xs, .lst ys => D.eqvAll xs ys
  | .tup xs, .tup ys => D.eqvAll xs ys
  | _, _ => false
def D.eqvAll : List D → List D → Bool
  | [], [] => true
  | x :: xs, y :: ys => D.eqv x y && D.eqvAll xs ys
  | _, _ => false
end
mutual
def py : D → PyData
  | .non => .none
  | .bl b => .bool b
  | .int i => .int i
  | .str s => .str ⟨s.toArray⟩
  | .tup ds => .tuple (pyAll ds)
  | .lst ds => .list (pyAll ds)
  | .dk _ => .none
  | .scr _ => .none
def pyAll : List D → List PyData
  | [] => []
  | d :: ds => py d :: pyAll ds
end
/-! it can be compared: no dict in it, not deeper than n -/
mutual
def eqOk : Nat → D → Bool
  | _, .dk _ => false
  | _, .scr _ => false
  | 0, .tup _ => false
  | 0, .lst _ => false
  | n + 1, .tup ds => eqOkAll n ds
  | n + 1, .lst ds => eqOkAll n ds
  | _, .non => true
  | _, .bl _ => true
  | _, .int _ => true
  | _, .str _ => true
def eqOkAll : Nat → List D → Bool
  | _, [] => true
  | n, d :: ds => eqOk n d && eqOkAll n ds
end
theorem eqOkAll_eq (n : Nat) : ∀ ds : List D, eqOkAll n ds = ds.all (eqOk n)
  | [] => by unfold eqOkAll; rfl
  | d :: ds => by unfold eqOkAll; rw [List.all_cons, eqOkAll_eq n ds]
theorem arr_beq (x y : List Nat) : ((⟨x.toArray⟩ : Str) == ⟨y.toArray⟩) = (x == y) := by
  by_cases h : x = y
  · subst h; simp
  · rw [beq_eq_false_iff_ne.mpr h]
    exact beq_eq_false_iff_ne.mpr fun e => h (by simpa using congrArg (fun s : Str => s.cps.toList) e)
mutual
theorem eqv_py : ∀ {n m : Nat} (a b : D), eqOk n a = true → eqOk m b = true → PyData.eqv (py a) (py b) = D.eqv a b
  | _, _, .dk _, _, h, _ => by unfold eqOk at h; cases h
  | _, _, .scr _, _, h, _ => by unfold eqOk at h; cases h
  | _, _, .non, b, _, g => by cases b <;> first | (unfold py; unfold py; unfold PyData.eqv D.eqv; done) | (simp [eqOk] at g; done) | simp [py, PyData.eqv, D.eqv]
  | _, _, .bl _, b, _, g => by cases b <;> first | (simp [eqOk] at g; done) | simp [py, PyData.eqv, D.eqv]
  | _, _, .int _, b, _, g => by cases b <;> first | (simp [eqOk] at g; done) | simp [py, PyData.eqv, D.eqv]
  | _, _, .str x, b, _, g => by cases b <;> first | (simp [eqOk] at g; done) | (simp [py, PyData.eqv, D.eqv]; done) | (simp only [py, PyData.eqv, D.eqv]; exact arr_beq _ _)
  | 0, _, .tup _, _, h, _ => by unfold eqOk at h; cases h
  | 0, _, .lst _, _, h, _ => by unfold eqOk at h; cases h
  | n + 1, m, .tup xs, b, h, g => by
    cases b with
    | tup ys =>
      cases m with
      | zero => unfold eqOk at g; cases g
      | succ m =>
        unfold eqOk at h g
        simp only [py, PyData.eqv, D.eqv]
        exact eqvAll_py xs ys h g
    | _ => first | (simp [eqOk] at g; done) | simp [py, PyData.eqv, D.eqv]
  | n + 1, m, .lst xs, b, h, g => by
    cases b with
    | lst ys =>
      cases m with
      | zero => unfold eqOk at g; cases g
      | succ m =>
        unfold eqOk at h g
        simp only [py, PyData.eqv, D.eqv]
        exact eqvAll_py xs ys h g
    | _ => first | (simp [eqOk] at g; done) | simp [py, PyData.eqv, D.eqv]
theorem eqvAll_py : ∀ {n m : Nat} (xs ys : List D), eqOkAll n xs = true → eqOkAll m ys = true → PyData.eqvAll (pyAll xs) (pyAll ys) = D.eqvAll xs ys
  | _, _, [], [], _, _ => by simp [pyAll, PyData.eqvAll, D.eqvAll]
  | _, _, [], _ :: _, _, _ => by simp [pyAll, PyData.eqvAll, D.eqvAll]
  | _, _, _ :: _, [], _, _ => by simp [pyAll, PyData.eqvAll, D.eqvAll]
  | n, m, x :: xs, y :: ys, h, g => by
    unfold eqOkAll at h g
    rw [Bool.and_eq_true] at h g
    simp only [pyAll, PyData.eqvAll, D.eqvAll]
    rw [eqv_py x y h.1 g.1, eqvAll_py xs ys h.2 g.2]
end
section
variable {K : PySem.W.Frag} {H : Hp}
theorem sOk_len {s : List Nat} (h : sOk s = true) : s.length ≤ sizeLine := of_decide_eq_true (Bool.and_eq_true_iff.mp h).1
theorem sOk_all {s : List Nat} (h : sOk s = true) : ∀ c ∈ s, c < 256 := fun c hc => of_decide_eq_true (List.all_eq_true.mp (Bool.and_eq_true_iff.mp h).2 c hc)
theorem sOk_of {s : List Nat} (h1 : s.length ≤ sizeLine) (h2 : ∀ c ∈ s, c < 256) : sOk s = true :=
  Bool.and_eq_true_iff.mpr ⟨decide_eq_true h1, List.all_eq_true.mpr fun c hc => decide_eq_true (h2 c hc)⟩
theorem strOk_of {s : List Nat} (h : sOk s = true) : PyData.strOk ⟨s.toArray⟩ = true := by
  unfold PyData.strOk
  simp only [List.all_toArray]
  exact List.all_eq_true.mpr fun c hc => decide_eq_true (by have := sOk_all h c hc; omega)
mutual
theorem dp_of : ∀ {n : Nat} {v : V} {d : D}, Dr K H v d → eqOk n d = true → Dp K H v (py d) ∧ (py d).canLay0 = true ∧ (py d).depth ≤ n
  | _, _, _, .non, _ => by unfold py; exact ⟨.non, by simp [PyData.canLay0], by simp [PyData.depth]⟩
  | _, _, _, .bl b, _ => by unfold py; exact ⟨.bl b, by simp [PyData.canLay0], by simp [PyData.depth]⟩
  | _, _, _, .int b, _ => by unfold py; exact ⟨.int b, by simp [PyData.canLay0], by simp [PyData.depth]⟩
  | _, _, _, .str s ok, _ => by unfold py; exact ⟨.str _, by simp [PyData.canLay0, strOk_of ok], by simp [PyData.depth]⟩
  | 0, _, _, .tup h r, e => by unfold eqOk at e; cases e
  | n + 1, _, _, .tup h r, e => by
    unfold eqOk at e
    obtain ⟨h1, h2, h3⟩ := dpAll_of r e
    unfold py
    exact ⟨.tup h h1, by simp [PyData.canLay0, h2], by simp [PyData.depth]; exact h3⟩
  | 0, _, _, .lst h r, e => by unfold eqOk at e; cases e
  | n + 1, _, _, .lst h r, e => by
    unfold eqOk at e
    obtain ⟨h1, h2, h3⟩ := dpAll_of r e
    unfold py
    exact ⟨.lst (.of h) h1, by simp [PyData.canLay0, h2], by simp [PyData.depth]; exact h3⟩
  | _, _, _, .scr _, e => by unfold eqOk at e; cases e
  | _, _, _, .dk _ _ _ _, e => by unfold eqOk at e; cases e
theorem dpAll_of : ∀ {n : Nat} {vs : List V} {ds : List D}, DrAll K H vs ds → eqOkAll n ds = true → DpAll K H vs (pyAll ds) ∧ PyData.canLayAll0 (pyAll ds) = true ∧ PyData.depthAll (pyAll ds) ≤ n
  | _, _, _, .nil, _ => by unfold pyAll; exact ⟨.nil, by simp [PyData.canLayAll0], by simp [PyData.depthAll]⟩
  | n, _, _, .cons h r, e => by
    unfold eqOkAll at e
    rw [Bool.and_eq_true] at e
    obtain ⟨h1, h2, h3⟩ := dp_of h e.1
    obtain ⟨g1, g2, g3⟩ := dpAll_of r e.2
    unfold pyAll
    exact ⟨.cons h1 g1, by simp [PyData.canLayAll0, h2, g2], by simp only [PyData.depthAll]; omega⟩
end
theorem shaped_of {n : Nat} {v : V} {d : D} (h : Dr K H v d) (e : eqOk n d = true) (hn : n ≤ 64) : SeqAt.shaped (py d) = true := by
  obtain ⟨_, h2, h3⟩ := dp_of h e
  unfold SeqAt.shaped
  rw [h2, Bool.true_and]
  exact decide_eq_true (by omega)
end

def dEq (st : Store) (a b : SV) : Option SV := (toD st a).bind fun x => (toD st b).bind fun y => if eqOk 30 x = true ∧ eqOk 30 y = true then some (.d (.bl (D.eqv x y))) else none
def dNe (st : Store) (a b : SV) : Option SV := (toD st a).bind fun x => (toD st b).bind fun y => if eqOk 30 x = true ∧ eqOk 30 y = true then some (.d (.bl (!D.eqv x y))) else none
theorem svb {K : PySem.W.Frag} {F : Hp} {ι : List Addr} (b : Bool) : SvR K F ι (.bl b) (.d (.bl b)) := Dr.bl b
theorem svi {K : PySem.W.Frag} {F : Hp} {ι : List Addr} (i : Int) : SvR K F ι (.int i) (.d (.int i)) := Dr.int i
theorem os_eq {K : PySem.W.Frag} : OpS K (rEqD K) dEq := by
  intro W σ H ι δ st x y s1 s2 s Q R r1 r2 e q
  obtain ⟨a, h1, e⟩ := Option.bind_eq_some_iff.mp e
  obtain ⟨b, h2, e⟩ := Option.bind_eq_some_iff.mp e
  split at e
  · rename_i c
    cases e
    have d1 := toD_ok R.sto r1 h1
    have d2 := toD_ok R.sto r2 h2
    refine ⟨py a, py b, (dp_of d1 c.1).1, (dp_of d2 c.2).1, shaped_of d1 c.1 (by decide), shaped_of d2 c.2 (by decide), ?_⟩
    rw [eqv_py a b c.1 c.2]
    exact q _ H (Same.refl H) (svb _)
  · cases e
theorem os_ne {K : PySem.W.Frag} : OpS K (rNeD K) dNe := by
  intro W σ H ι δ st x y s1 s2 s Q R r1 r2 e q
  obtain ⟨a, h1, e⟩ := Option.bind_eq_some_iff.mp e
  obtain ⟨b, h2, e⟩ := Option.bind_eq_some_iff.mp e
  split at e
  · rename_i c
    cases e
    have d1 := toD_ok R.sto r1 h1
    have d2 := toD_ok R.sto r2 h2
    refine ⟨py a, py b, (dp_of d1 c.1).1, (dp_of d2 c.2).1, shaped_of d1 c.1 (by decide), shaped_of d2 c.2 (by decide), ?_⟩
    rw [eqv_py a b c.1 c.2]
    exact q _ H (Same.refl H) (svb _)
  · cases e
def isNonS : SV → Bool
  | .d .non => true
  | _ => false
def dIsN (_ : Store) (a b : SV) : Option SV := if isNonS b = true then some (.d (.bl (isNonS a))) else none
def dNotN (_ : Store) (a b : SV) : Option SV := if isNonS b = true then some (.d (.bl (!isNonS a))) else none
theorem is_non {K : PySem.W.Frag} {F : Hp} {ι : List Addr} {v : V} {s : SV} (h : SvR K F ι v s) : decide (v = .non) = isNonS s := by
  cases s with
  | r n => obtain ⟨a, _, rfl⟩ := h; rfl
  | d x =>
    have h' : Dr K F v x := h
    cases h' <;> rfl
theorem non_of {K : PySem.W.Frag} {F : Hp} {ι : List Addr} {v : V} {s : SV} (h : SvR K F ι v s) (e : isNonS s = true) : v = .non := by
  rw [← is_non h] at e
  exact of_decide_eq_true e
theorem os_isN {K : PySem.W.Frag} : OpS K (fun x y H Q => y = .non ∧ Q (.bl (decide (x = .non))) H) dIsN := by
  intro W σ H ι δ st x y s1 s2 s Q R r1 r2 e q
  unfold dIsN at e
  split at e
  · rename_i c
    cases e
    refine ⟨non_of r2 c, ?_⟩
    rw [is_non r1]
    exact q _ H (Same.refl H) (svb _)
  · cases e
theorem os_notN {K : PySem.W.Frag} : OpS K (fun x y H Q => y = .non ∧ Q (.bl (!decide (x = .non))) H) dNotN := by
  intro W σ H ι δ st x y s1 s2 s Q R r1 r2 e q
  unfold dNotN at e
  split at e
  · rename_i c
    cases e
    refine ⟨non_of r2 c, ?_⟩
    rw [is_non r1]
    exact q _ H (Same.refl H) (svb _)
  · cases e

/-! ### numbers, texts, sequences -/
section
variable {K : PySem.W.Frag} {F : Hp} {ι : List Addr} {v : V}
theorem dr_int {i : Int} (h : SvR K F ι v (.d (.int i))) : v = .int i := by
  have h' : Dr K F v (.int i) := h
  cases h'; rfl
theorem dr_str {s : List Nat} (h : SvR K F ι v (.d (.str s))) : v = .str ⟨s.toArray⟩ ∧ sOk s = true := by
  have h' : Dr K F v (.str s) := h
  cases h'
  exact ⟨rfl, by assumption⟩
end
/-- two ints to a value -/
def dII (C : Int → Int → Bool) (g : Int → Int → D) (_ : Store) : SV → SV → Option SV
  | .d (.int a), .d (.int b) => if C a b = true then some (.d (g a b)) else none
  | _, _ => none
theorem os_ii {K : PySem.W.Frag} {C : Int → Int → Prop} {C' : Int → Int → Bool} {g : Int → Int → V} {g' : Int → Int → D} (hC : ∀ a b, C' a b = true → C a b) (hg : ∀ F a b, Dr K F (g a b) (g' a b)) : OpS K (rI C g) (dII C' g') := by
  intro W σ H ι δ st x y s1 s2 s Q R r1 r2 e q
  unfold dII at e
  split at e
  · rename_i a b
    split at e
    · rename_i c
      cases e
      exact ⟨a, b, dr_int r1, dr_int r2, hC a b c, q _ H (Same.refl H) (hg _ a b)⟩
    · cases e
  · cases e
theorem os_ii0 {K : PySem.W.Frag} {g : Int → Int → V} {g' : Int → Int → D} (hg : ∀ F a b, Dr K F (g a b) (g' a b)) : OpS K (rI0 g) (dII (fun _ _ => true) g') := by
  intro W σ H ι δ st x y s1 s2 s Q R r1 r2 e q
  unfold dII at e
  split at e
  · rename_i a b
    rw [if_pos rfl] at e
    cases e
    exact ⟨a, b, dr_int r1, dr_int r2, q _ H (Same.refl H) (hg _ a b)⟩
  · cases e
abbrev tru2 : Int → Int → Bool := fun _ _ => true
abbrev dSub := dII tru2 fun a b => .int (a - b)
abbrev dMul := dII (fun a b => decide ((-(2 ^ 64) < a ∧ a < 2 ^ 64) ∨ (-(2 ^ 64) < b ∧ b < 2 ^ 64))) fun a b => .int (a * b)
abbrev dMod := dII (fun _ b => decide (0 < b)) fun a b => .int (a % b)
abbrev dFdiv := dII (fun _ b => decide (0 < b ∧ b < 1073741824)) fun a b => .int (a / b)
abbrev dPow := dII (fun a b => decide (0 ≤ b ∧ b ≤ 1000000 ∧ a.natAbs < 2 ^ 64)) fun a b => .int (a ^ b.toNat)
abbrev dLe := dII tru2 fun a b => .bl (decide (a ≤ b))
abbrev dGt := dII tru2 fun a b => .bl (decide (b < a))
abbrev dGe := dII tru2 fun a b => .bl (decide (b ≤ a))
section
variable {X : Cx} {a b c : Expr} {fa fb fc : FE} {pos : Pos}
theorem de_sub (ha : DE X a fa) (hb : DE X b fb) : DE X (.BinOp a .Sub b pos) (cOp dSub fa fb) := de_op op_sub (os_ii0 fun _ a b => .int _) ha hb
theorem de_mul (ha : DE X a fa) (hb : DE X b fb) : DE X (.BinOp a .Mult b pos) (cOp dMul fa fb) := de_op op_mul (os_ii (fun _ _ h => by have h' := of_decide_eq_true h; exact h') fun _ a b => .int _) ha hb
theorem de_mod (ha : DE X a fa) (hb : DE X b fb) : DE X (.BinOp a .Mod b pos) (cOp dMod fa fb) := de_op op_mod (os_ii (fun _ _ h => by have h' := of_decide_eq_true h; exact h') fun _ a b => .int _) ha hb
theorem de_fdiv (ha : DE X a fa) (hb : DE X b fb) : DE X (.BinOp a .FloorDiv b pos) (cOp dFdiv fa fb) := de_op op_fdiv (os_ii (fun _ _ h => by have h' := of_decide_eq_true h; exact h') fun _ a b => .int _) ha hb
theorem de_pow (ha : DE X a fa) (hb : DE X b fb) : DE X (.BinOp a .Pow b pos) (cOp dPow fa fb) := de_op op_pow (os_ii (fun _ _ h => by have h' := of_decide_eq_true h; exact h') fun _ a b => .int _) ha hb
end
def dNeg (_ : Store) : SV → Option SV
  | .d (.int a) => some (.d (.int (-a)))
  | _ => none
theorem de_neg {X : Cx} {a : Expr} {fa : FE} {pos : Pos} (ha : DE X a fa) : DE X (.UnaryOp .USub a pos) (cUn dNeg fa) := de_un un_neg (fun W σ H ι δ st x s1 s Q R r1 e q => by
  unfold dNeg at e
  split at e
  · cases e
    exact ⟨_, dr_int r1, q _ H (Same.refl H) (svi _)⟩
  · cases e) ha

def dAdd (st : Store) (x y : SV) : Option SV := match x, y with
  | .d (.int a), .d (.int b) => some (.d (.int (a + b)))
  | .d (.str a), .d (.str b) => if a.length + b.length ≤ sizeLine then some (.d (.str (a ++ b))) else none
  | .d (.tup a), .d (.tup b) => if a.length + b.length ≤ sizeLine then some (.d (.tup (a ++ b))) else none
  | _, _ => match litems st x, litems st y with
    | some a, some b => if a.length + b.length ≤ sizeLine then some (.d (.lst (a ++ b))) else none
    | _, _ => none
abbrev rAddA (K : PySem.W.Frag) : R2 := fun x y H Q => (rI0 (fun i j => .int (i + j)) x y H Q ∨ (∃ i j, x = .str i ∧ y = .str j ∧ i.length + j.length ≤ sizeLine ∧ Q (.str (i ++ j)) H)) ∨ (rCatA K x y H Q ∨ rCat x y H Q)
theorem op_addA {X : Cx} : OpR X (binaryOp .Add) (rAddA X.K) := (op_add.or op_add_str).or (op_catA.or op_cat)
theorem str_app (a b : List Nat) : ((⟨a.toArray⟩ : Str) ++ ⟨b.toArray⟩) = ⟨(a ++ b).toArray⟩ := by
  show (⟨a.toArray ++ b.toArray⟩ : Str) = _
  rw [List.append_toArray]
theorem sOk_app {a b : List Nat} (ha : sOk a = true) (hb : sOk b = true) (h : a.length + b.length ≤ sizeLine) : sOk (a ++ b) = true :=
  sOk_of (by rw [List.length_append]; exact h) fun c hc => (List.mem_append.mp hc).elim (sOk_all ha c) (sOk_all hb c)
theorem os_add {K : PySem.W.Frag} : OpS K (rAddA K) dAdd := by
  intro W σ H ι δ st x y s1 s2 s Q R r1 r2 e q
  unfold dAdd at e
  split at e
  · cases e
    exact .inl (.inl ⟨_, _, dr_int r1, dr_int r2, q _ H (Same.refl H) (svi _)⟩)
  · split at e
    · rename_i c
      cases e
      obtain ⟨e1, k1⟩ := dr_str r1
      obtain ⟨e2, k2⟩ := dr_str r2
      refine .inl (.inr ⟨_, _, e1, e2, by simpa [Str.length] using c, ?_⟩)
      rw [str_app]
      exact q _ H (Same.refl H) (Dr.str _ (sOk_app k1 k2 c))
    · cases e
  · rename_i a b
    split at e
    · rename_i c
      cases e
      have h1 : Dr K (fz H W ι) x (.tup a) := r1
      have h2 : Dr K (fz H W ι) y (.tup b) := r2
      cases h1 with
      | tup g1 k1 =>
        cases h2 with
        | tup g2 k2 =>
          rename_i p1 xs p2 ys
          have l1 := k1.length
          have l2 := k2.length
          refine .inr (.inl ⟨p1, p2, xs, ys, rfl, rfl, le_fz.seqT g1, le_fz.seqT g2, by omega, fun z => ?_, fun z z2 => ?_, fun z z2 p hp => ?_⟩)
          · subst z
            have : a = [] := List.eq_nil_of_length_eq_zero (by rw [← l1]; rfl)
            subst this
            exact q _ H (Same.refl H) (.tup g2 k2)
          · subst z2
            have : b = [] := List.eq_nil_of_length_eq_zero (by rw [← l2]; rfl)
            subst this
            rw [List.append_nil] at q
            exact q _ H (Same.refl H) (.tup g1 k1)
          · have S := same_upd (o := .tup (xs ++ ys)) hp
            exact q _ _ S (Dr.tup (xs := xs ++ ys) (.inl (.inl (fresh_fz R hp))) (DrAll.mono (Ps.same S).le (k1.append k2)))
    · cases e
  · split at e
    · rename_i e1 e2
      split at e
      · rename_i c
        cases e
        obtain ⟨p1, xs, rfl, g1, k1⟩ := litems_ok R.sto r1 e1
        obtain ⟨p2, ys, rfl, g2, k2⟩ := litems_ok R.sto r2 e2
        have l1 := k1.length
        have l2 := k2.length
        refine .inr (.inr ⟨p1, p2, xs, ys, rfl, rfl, g1, g2, by omega, fun p hp => ?_⟩)
        have S := same_upd (o := .lst (xs ++ ys)) hp
        exact q _ _ S (Dr.lst (xs := xs ++ ys) (fresh_fz R hp) (DrAll.mono (Ps.same S).le (k1.append k2)))
      · cases e
    · cases e

section
variable {X : Cx} {a b c : Expr} {fa fb fc : FE} {pos : Pos}
theorem de_add (ha : DE X a fa) (hb : DE X b fb) : DE X (.BinOp a .Add b pos) (cOp dAdd fa fb) := de_op op_addA os_add ha hb
end
/-- in: a sign in a text; data in a list, a tuple -/
def dInB (st : Store) (x y : SV) : Option Bool := match x, y with
  | .d (.str [c]), .d (.str z) => some (decide (c ∈ z))
  | _, .d (.str _) => none
  | _, _ => (toD st x).bind fun d => (ditems st y).bind fun ds => if eqOk 30 d = true ∧ eqOkAll 30 ds = true then some (ds.any fun z => D.eqv z d) else none
def dIn (st : Store) (x y : SV) : Option SV := (dInB st x y).map fun b => .d (.bl b)
def dNotIn (st : Store) (x y : SV) : Option SV := (dInB st x y).map fun b => .d (.bl (!b))
def rInT (K : PySem.W.Frag) (neg : Bool) : R2 := fun x y H Q => ∃ d ds, Dp K H x d ∧ Dp K H y (.tuple ds) ∧ SeqAt.shaped d = true ∧ SeqAt.shaped (.tuple ds) = true ∧ Q (.bl (if neg then !ds.any fun z => PyData.eqv z d else ds.any fun z => PyData.eqv z d)) H
theorem op_inT {X : Cx} (hu : X.A.units + 65 < cLine) : OpR X (compareOp .In) (rInT X.K false) := by
  intro pins s σ H x y v u Q I rx ry h
  obtain ⟨d, ds, hd, he, sd, se, q⟩ := h
  obtain ⟨as, r1⟩ := Dp.reads I d x v hd rx
  obtain ⟨bs, r2⟩ := Dp.reads I (.tuple ds) y u he ry
  exact SeqAt.in_tuple_reads r2 r1 (SeqAt.canLay_of_shaped se) (SeqAt.canLay_of_shaped sd) (PyProof.Rows.room_in_shaped sd hu) ⟨.bl _, H, I, rfl, q⟩
theorem op_notInT {X : Cx} (hu : X.A.units + 65 < cLine) : OpR X (compareOp .NotIn) (rInT X.K true) := by
  intro pins s σ H x y v u Q I rx ry h
  obtain ⟨d, ds, hd, he, sd, se, q⟩ := h
  obtain ⟨as, r1⟩ := Dp.reads I d x v hd rx
  obtain ⟨bs, r2⟩ := Dp.reads I (.tuple ds) y u he ry
  exact SeqAt.notIn_tuple_reads r2 r1 (SeqAt.canLay_of_shaped se) (SeqAt.canLay_of_shaped sd) (PyProof.Rows.room_in_shaped sd hu) ⟨.bl _, H, I, rfl, q⟩
abbrev rInS : R2 := fun x y H Q => ∃ (c : Nat) (z : Str), x = .str ⟨#[c]⟩ ∧ y = .str z ∧ Q (.bl (decide (c ∈ z.cps.toList))) H
abbrev rNotInS : R2 := fun x y H Q => ∃ (c : Nat) (z : Str), x = .str ⟨#[c]⟩ ∧ y = .str z ∧ Q (.bl (!decide (c ∈ z.cps.toList))) H
theorem pyAll_any (d : D) (hd : eqOk 30 d = true) : ∀ ds : List D, eqOkAll 30 ds = true → ((pyAll ds).any fun z => PyData.eqv z (py d)) = ds.any fun z => D.eqv z d
  | [], _ => by unfold pyAll; rfl
  | x :: r, h => by
    unfold eqOkAll at h
    rw [Bool.and_eq_true] at h
    unfold pyAll
    rw [List.any_cons, List.any_cons, eqv_py x d h.1 hd, pyAll_any d hd r h.2]
theorem inB_cases {K : PySem.W.Frag} {W σ H ι δ st x y s1 s2 b} (R : Rl K W σ H ι δ st) (r1 : SvR K (fz H W ι) ι x s1) (r2 : SvR K (fz H W ι) ι y s2) (e : dInB st s1 s2 = some b) :
    (∃ (c : Nat) (z : Str), x = .str ⟨#[c]⟩ ∧ y = .str z ∧ b = decide (c ∈ z.cps.toList)) ∨ ∃ d ds, Dp K H x d ∧ (Dp K H y (.list ds) ∧ SeqAt.shaped (.list ds) = true ∨ Dp K H y (.tuple ds) ∧ SeqAt.shaped (.tuple ds) = true) ∧ SeqAt.shaped d = true ∧ b = (ds.any fun z => PyData.eqv z d) := by
  unfold dInB at e
  split at e
  · cases e
    exact .inl ⟨_, _, (dr_str r1).1, (dr_str r2).1, by simp⟩
  · cases e
  · obtain ⟨d, e1, e⟩ := Option.bind_eq_some_iff.mp e
    obtain ⟨ds, e2, e⟩ := Option.bind_eq_some_iff.mp e
    split at e
    · rename_i c
      cases e
      have h1 := toD_ok R.sto r1 e1
      obtain ⟨a, xs, rfl, hq, k⟩ := ditems_ok R.sto r2 e2
      have k' := DrAll.mono le_fz k
      obtain ⟨p1, p2, p3⟩ := dpAll_of k' c.2
      refine .inr ⟨py d, pyAll ds, (dp_of h1 c.1).1, ?_, shaped_of h1 c.1 (by decide), (pyAll_any d c.1 ds c.2).symm⟩
      rcases hq with ⟨_, hq⟩ | hq
      · refine .inl ⟨.lst hq p1, ?_⟩
        unfold SeqAt.shaped
        rw [show (PyData.list (pyAll ds)).canLay0 = true by simp [PyData.canLay0, p2], Bool.true_and]
        exact decide_eq_true (by simp only [PyData.depth]; omega)
      · refine .inr ⟨.tup hq p1, ?_⟩
        unfold SeqAt.shaped
        rw [show (PyData.tuple (pyAll ds)).canLay0 = true by simp [PyData.canLay0, p2], Bool.true_and]
        exact decide_eq_true (by simp only [PyData.depth]; omega)
    · cases e
abbrev rInA (K : PySem.W.Frag) : R2 := fun x y H Q => rInS x y H Q ∨ (rInD K x y H Q ∨ rInT K false x y H Q)
abbrev rNotInA (K : PySem.W.Frag) : R2 := fun x y H Q => rNotInS x y H Q ∨ (rNotInD K x y H Q ∨ rInT K true x y H Q)
theorem op_inA {X : Cx} (hu : X.A.units + 65 < cLine) : OpR X (compareOp .In) (rInA X.K) := op_in_sign.or ((op_inD hu).or (op_inT hu))
theorem op_notInA {X : Cx} (hu : X.A.units + 65 < cLine) : OpR X (compareOp .NotIn) (rNotInA X.K) := op_notIn_sign.or ((op_notInD hu).or (op_notInT hu))
theorem os_in {K : PySem.W.Frag} : OpS K (rInA K) dIn := by
  intro W σ H ι δ st x y s1 s2 s Q R r1 r2 e q
  obtain ⟨b, e1, e2⟩ := Option.map_eq_some_iff.mp e
  subst e2
  have q' := q (.bl b) H (Same.refl H) (svb b)
  rcases inB_cases R r1 r2 e1 with ⟨c, z, h1, h2, h3⟩ | ⟨d, ds, h1, h2, h3, h4⟩
  · exact .inl ⟨c, z, h1, h2, h3 ▸ q'⟩
  · rcases h2 with h2 | h2
    · exact .inr (.inl ⟨d, ds, h1, h2.1, h3, h2.2, h4 ▸ q'⟩)
    · exact .inr (.inr ⟨d, ds, h1, h2.1, h3, h2.2, h4 ▸ q'⟩)
theorem os_notIn {K : PySem.W.Frag} : OpS K (rNotInA K) dNotIn := by
  intro W σ H ι δ st x y s1 s2 s Q R r1 r2 e q
  obtain ⟨b, e1, e2⟩ := Option.map_eq_some_iff.mp e
  subst e2
  have q' := q (.bl (!b)) H (Same.refl H) (svb (!b))
  rcases inB_cases R r1 r2 e1 with ⟨c, z, h1, h2, h3⟩ | ⟨d, ds, h1, h2, h3, h4⟩
  · exact .inl ⟨c, z, h1, h2, h3 ▸ q'⟩
  · rcases h2 with h2 | h2
    · exact .inr (.inl ⟨d, ds, h1, h2.1, h3, h2.2, h4 ▸ q'⟩)
    · exact .inr (.inr ⟨d, ds, h1, h2.1, h3, h2.2, h4 ▸ q'⟩)
def dLt (_ : Store) (x y : SV) : Option SV := match x, y with
  | .d (.int a), .d (.int b) => some (.d (.bl (decide (a < b))))
  | .d (.str a), .d (.str b) => some (.d (.bl (decide (a < b))))
  | _, _ => none
abbrev rLtA : R2 := fun x y H Q => rI0 (fun i j => .bl (decide (i < j))) x y H Q ∨ ∃ i j, x = .str i ∧ y = .str j ∧ Q (.bl (decide (i.cps.toList < j.cps.toList))) H
theorem os_lt {K : PySem.W.Frag} : OpS K rLtA dLt := by
  intro W σ H ι δ st x y s1 s2 s Q R r1 r2 e q
  unfold dLt at e
  split at e
  · cases e
    exact .inl ⟨_, _, dr_int r1, dr_int r2, q _ H (Same.refl H) (svb _)⟩
  · cases e
    exact .inr ⟨_, _, (dr_str r1).1, (dr_str r2).1, q _ H (Same.refl H) (svb _)⟩
  · cases e
/-- s[i] -/
def dIx (st : Store) (x y : SV) : Option SV := match y with
  | .d (.int i) => match x with
    | .d (.str s) => (atI s i).map fun c => .d (.str [c])
    | .d (.scr ns) => (atI ns i).map fun n => .d (.int n)
    | _ => (items st x).bind fun ss => atI ss i
  | _ => none
theorem paired_get {α β : Type} {F : α → β → Prop} : ∀ {xs : List α} {ys : List β} {j : Nat} {y : β}, Paired F xs ys → ys[j]? = some y → ∃ x, xs[j]? = some x ∧ F x y
  | _, _, _, _, .nil, e => by simp at e
  | _, _, 0, _, .cons r _, e => by simp at e; subst e; exact ⟨_, rfl, r⟩
  | _, _, j + 1, y, .cons _ t, e => by
    obtain ⟨x, h1, h2⟩ := paired_get (j := j) (y := y) t (by simpa using e)
    exact ⟨x, by simpa using h1, h2⟩
theorem paired_atI {α β : Type} {F : α → β → Prop} {xs : List α} {ys : List β} {i : Int} {y : β} (p : Paired F xs ys) (h : atI ys i = some y) : ∃ x, atI xs i = some x ∧ F x y := by
  unfold atI at h ⊢
  have hl : xs.length = ys.length := Paired.length p
  rw [hl]
  obtain ⟨j, h1, h2⟩ := Option.bind_eq_some_iff.mp h
  obtain ⟨x, h3, h4⟩ := paired_get p h2
  exact ⟨x, by rw [h1]; exact h3, h4⟩
theorem atI_map {α β : Type} (f : α → β) (xs : List α) (i : Int) : atI (xs.map f) i = (atI xs i).map f := by
  unfold atI
  rw [List.length_map]
  cases ixN xs.length i with
  | none => rfl
  | some j => simp
theorem os_ix {K : PySem.W.Frag} : OpS K (rIx K) dIx := by
  intro W σ H ι δ st x y s1 s2 s Q R r1 r2 e q
  unfold dIx at e
  split at e
  · rename_i i
    have ey := dr_int r2
    split at e
    · rename_i z
      obtain ⟨c, h1, h2⟩ := Option.map_eq_some_iff.mp e
      subst h2
      obtain ⟨ex, k⟩ := dr_str r1
      have hc : c < 256 := sOk_all k c (by
        unfold atI at h1
        obtain ⟨j, _, h⟩ := Option.bind_eq_some_iff.mp h1
        exact List.mem_of_getElem? h)
      refine .inr (.inr ⟨_, i, c, ex, ey, by simpa [Str.length] using sOk_len k, by simpa using h1, ?_⟩)
      exact q _ H (Same.refl H) (Dr.str [c] (sOk_of (by simp; rw [sizeLine_eq]; decide) (by simpa using hc)))
    · rename_i ns
      obtain ⟨n, h1, h2⟩ := Option.map_eq_some_iff.mp e
      subst h2
      have h : Dr K (fz H W ι) x (.scr ns) := r1
      cases h with
      | scr h => exact .inl ⟨_, _, i, .int n, rfl, ey, le_fz.seqL h, by rw [atI_map, h1]; rfl, q _ H (Same.refl H) (svi n)⟩
    · obtain ⟨ss, h1, h2⟩ := Option.bind_eq_some_iff.mp e
      obtain ⟨a, xs, rfl, hq, k⟩ := items_ok R.sto r1 h1
      obtain ⟨v, h3, h4⟩ := paired_atI k h2
      rcases hq with ⟨_, hq⟩ | hq
      · exact .inl ⟨a, xs, i, v, rfl, ey, hq, h3, q v H (Same.refl H) h4⟩
      · exact .inr (.inl ⟨a, xs, i, v, rfl, ey, hq, h3, q v H (Same.refl H) h4⟩)
  · cases e
section
variable {X : Cx} {a b c : Expr} {fa fb fc : FE} {pos : Pos}
theorem de_ixA (ha : DE X a fa) (hb : DE X b fb) (hp : PlainIx b := by intro _ _; rfl) : DE X (.Subscript a b pos) (cOp dIx fa fb) := de_ix ix_seq os_ix ha hb hp
end

/-! ### slices -/
def cPart (f : FE) : Env → Store → Option (Option Int × Store) := fun δ st => (f δ st).bind fun p => match p.1 with | .d (.int i) => some (some i, p.2) | _ => none
def cNoPart : Env → Store → Option (Option Int × Store) := fun _ st => some (none, st)
def cutL {α : Type} (xs : List α) (lo hi : Option Int) : List α := (xs.drop (HT.sIx xs.length 0 lo)).take (HT.sIx xs.length xs.length hi - HT.sIx xs.length 0 lo)
def dCut (st : Store) (x : SV) (lo hi : Option Int) : Option SV := match x with
  | .d (.str s) => some (.d (.str (cutL s lo hi)))
  | .d (.tup ds) => some (.d (.tup (cutL ds lo hi)))
  | _ => (litems st x).map fun ds => .d (.lst (cutL ds lo hi))
def cCut (f : FE) (l h : Env → Store → Option (Option Int × Store)) : FE := fun δ st => (f δ st).bind fun p => (l δ p.2).bind fun q => (h δ q.2).bind fun r => (dCut r.2 p.1 q.1 r.1).bind fun s => some (s, r.2)
def tP (K : PySem.W.Frag) (f : Env → Store → Option (Option Int × Store)) : TO := fun σ H Q => ∃ W ι δ st s st', Rl K W σ H ι δ st ∧ f δ st = some (s, st') ∧ ∀ H' ι', Ps H ι H' ι' → Rl K W σ H' ι' δ st' → Q s H'
structure DP (X : Cx) (e : Option Expr) (f : Env → Store → Option (Option Int × Store)) : Prop where
  po : PO X e (tP X.K f)
theorem dp_none {X : Cx} : DP X none cNoPart := ⟨⟨fun pins s σ H Q I h => po_none.run pins s σ H Q I (by
  obtain ⟨W, ι, δ, st, o, st', R, e, q⟩ := h
  cases e
  exact q H ι (Ps.refl _ _) R)⟩⟩
theorem dp_some {X : Cx} {e : Expr} {f : FE} (he : DE X e f) : DP X (some e) (cPart f) := ⟨⟨fun pins s σ H Q I h => (po_some he.pe).run pins s σ H Q I (by
  obtain ⟨W, ι, δ, st, o, st', R, e, q⟩ := h
  obtain ⟨p, h1, e⟩ := Option.bind_eq_some_iff.mp e
  refine ⟨W, ι, δ, st, p.1, p.2, R, h1, fun v H1 ι1 P1 R1 r1 => ?_⟩
  split at e
  · rename_i i ei
    cases e
    rw [ei] at r1
    exact ⟨i, dr_int r1, q H1 ι1 P1 R1⟩
  · cases e)⟩⟩
abbrev rCutA (K : PySem.W.Frag) : V → Option Int → Option Int → Hp → VK → Prop := fun x lo hi H Q => rSlS x lo hi H Q ∨ (rSlA K x lo hi H Q ∨ rSlL K x lo hi H Q)
theorem DrAll.cut {K : PySem.W.Frag} {F : Hp} {xs : List V} {ds : List D} (r : DrAll K F xs ds) (lo hi : Option Int) : DrAll K F (cutV xs lo hi) (cutL ds lo hi) := by
  unfold cutV cutL
  rw [r.length]
  exact (r.drop _).take _
theorem cutL_sub {α : Type} {xs : List α} {lo hi : Option Int} {c : α} (h : c ∈ cutL xs lo hi) : c ∈ xs := List.mem_of_mem_drop (List.mem_of_mem_take h)
theorem cutL_length {α : Type} (xs : List α) (lo hi : Option Int) : (cutL xs lo hi).length ≤ xs.length := by
  unfold cutL
  rw [List.length_take, List.length_drop]
  omega
theorem cutL_whole {α : Type} {xs : List α} {lo hi : Option Int} (h1 : HT.sIx xs.length 0 lo = 0) (h2 : HT.sIx xs.length xs.length hi = xs.length) : cutL xs lo hi = xs := by
  unfold cutL
  rw [h1, h2]
  simp
theorem de_cut {X : Cx} {e : Expr} {lo hi : Option Expr} {f : FE} {l h : Env → Store → Option (Option Int × Store)} {pos p2 : Pos} (he : DE X e f) (hl : DP X lo l) (hh : DP X hi h) : DE X (.Subscript e (.Slice lo hi none p2) pos) (cCut f l h) := by
  refine ⟨PE_weak (pe_slice (sl_str.or (sl_tupA.or sl_list)) he.pe hl.po hh.po) ?_⟩
  rintro σ H Q ⟨W, ι, δ, st, s, st', R, e, q⟩
  obtain ⟨p, h1, e⟩ := Option.bind_eq_some_iff.mp e
  obtain ⟨p2, h2, e⟩ := Option.bind_eq_some_iff.mp e
  obtain ⟨p3, h3, e⟩ := Option.bind_eq_some_iff.mp e
  obtain ⟨s3, h4, e⟩ := Option.bind_eq_some_iff.mp e
  cases e
  refine ⟨W, ι, δ, st, p.1, p.2, R, h1, fun v1 H1 ι1 P1 R1 r1 => ⟨W, ι1, δ, p.2, p2.1, p2.2, R1, h2, fun H2 ι2 P2 R2 => ⟨W, ι2, δ, p2.2, p3.1, p3.2, R2, h3, fun H3 ι3 P3 R3 => ?_⟩⟩⟩
  have r3 := (r1.ps P2).ps P3
  have q' : ∀ v H', Same H3 H' → SvR X.K (fz H' W ι3) ι3 v s → Q v H' := fun v H' S r => q v H' ι3 (((P1.trans P2).trans P3).trans (Ps.same S)) (R3.same S) r
  unfold dCut at h4
  split at h4
  · rename_i z ez
    cases h4
    rw [ez] at r3
    obtain ⟨ex, k⟩ := dr_str r3
    refine .inl ⟨_, ex, by simpa [Str.length] using sOk_len k, ?_⟩
    have e2 : cutS ⟨z.toArray⟩ p2.1 p3.1 = ⟨(cutL z p2.1 p3.1).toArray⟩ := by
      unfold cutS cutL
      simp [Str.length]
    rw [e2]
    exact q' _ H3 (Same.refl H3) (Dr.str _ (sOk_of (Nat.le_trans (cutL_length _ _ _) (sOk_len k)) fun c hc => sOk_all k c (cutL_sub hc)))
  · rename_i ds ez
    cases h4
    rw [ez] at r3
    have r4 : Dr X.K (fz H3 W ι3) v1 (.tup ds) := r3
    cases r4 with
    | tup g k =>
      rename_i a xs
      refine .inr (.inl ⟨a, xs, rfl, le_fz.seqT g, fun w => ?_, fun w p hp => ?_⟩)
      · have e3 : cutL ds p2.1 p3.1 = ds := cutL_whole (by rw [← k.length]; exact w.1) (by rw [← k.length]; exact w.2)
        rw [e3] at q'
        exact q' _ H3 (Same.refl H3) (Dr.tup g k)
      · have S := same_upd (o := .tup (cutV xs p2.1 p3.1)) hp
        exact q' _ _ S (Dr.tup (.inl (.inl (fresh_fz R3 hp))) (DrAll.mono (Ps.same S).le (k.cut _ _)))
  · obtain ⟨ds, h5, h6⟩ := Option.map_eq_some_iff.mp h4
    subst h6
    obtain ⟨a, xs, rfl, g, k⟩ := litems_ok R3.sto r3 h5
    refine .inr (.inr ⟨a, xs, rfl, .of g, fun p hp => ?_⟩)
    have S := same_upd (o := .lst (cutV xs p2.1 p3.1)) hp
    exact q' _ _ S (Dr.lst (fresh_fz R3 hp) (DrAll.mono (Ps.same S).le (k.cut _ _)))
end DL

set_option maxHeartbeats 1000000
/-! DD: calls of built-ins and of defs. -/
namespace DL
open PySem PySem.Spec L2

def CallS (K : PySem.W.Frag) (r : List V → Hp → VK → Prop) (g : Store → List SV → Option SV) : Prop := ∀ W σ H ι δ st xs ss s Q, Rl K W σ H ι δ st → SvAll K (fz H W ι) ι xs ss → g st ss = some s →
  (∀ v H', Same H H' → SvR K (fz H' W ι) ι v s → Q v H') → r xs H Q
def cFn (g : Store → List SV → Option SV) (fs : FA) : FE := fun δ st => (fs δ st).bind fun p => (g p.2 p.1).bind fun s => some (s, p.2)
section
variable {X : Cx} {e : Expr} {es : List Expr} {f : FE} {fs : FA} {pos p : Pos} {x : Str}
theorem fn_weak {K : PySem.W.Frag} {r : List V → Hp → VK → Prop} {g : Store → List SV → Option SV} (hs : CallS K r g) {σ : L2.St} {H : Hp} {Q : VK} (t : tE K (cFn g fs) σ H Q) : tCB r (tA K fs) σ H Q := by
  obtain ⟨W, ι, δ, st, s, st', R, h, q⟩ := t
  obtain ⟨p, h1, h⟩ := Option.bind_eq_some_iff.mp h
  obtain ⟨s3, h3, h⟩ := Option.bind_eq_some_iff.mp h
  cases h
  refine ⟨W, ι, δ, st, p.1, p.2, R, h1, fun vs H1 ι1 P1 R1 r1 => ?_⟩
  exact hs W σ H1 ι1 δ p.2 vs p.1 s Q R1 r1 h3 fun v H' S r => q v H' ι1 (P1.trans (Ps.same S)) (R1.same S) r
theorem de_callB {id : String} {r : List V → Hp → VK → Prop} {g : Store → List SV → Option SV} (hc : CallR X (.builtin id) r) (hs : CallS X.K r g) (hg : Gl X x) (hm : X.mg x = none) (hv : bootBuiltins x = some (.builtin id)) (ha : DA X (e :: es) fs)
    (hn : x ≠ "__name__" := by decide) (hdb : (x == ("__debug__" : Str)) = false := by decide) (he : starEach (e :: es) X.env = (false, eval e X.env) :: starEach es X.env := by rfl) (hpl : (backTo pos (starEach es X.env)).any (·.1) = false := by rfl) :
    DE X (.Call (.Name x p) (e :: es) [] pos) (cFn g fs) := ⟨PE_weak (pe_callB hc hg hm hv ha.pa hn hdb he hpl) fun _ _ _ t => fn_weak hs t⟩
theorem de_callTy {T : String} {r : List V → Hp → VK → Prop} {g : Store → List SV → Option SV} (hc : CallR X (.type T) r) (hs : CallS X.K r g) (hg : Gl X x) (hm : X.mg x = none) (hv : bootBuiltins x = some (.type T)) (ha : DA X (e :: es) fs)
    (hn : x ≠ "__name__" := by decide) (hdb : (x == ("__debug__" : Str)) = false := by decide) (he : starEach (e :: es) X.env = (false, eval e X.env) :: starEach es X.env := by rfl) (hpl : (backTo pos (starEach es X.env)).any (·.1) = false := by rfl) :
    DE X (.Call (.Name x p) (e :: es) [] pos) (cFn g fs) := ⟨PE_weak (pe_callTy hc hg hm hv ha.pa hn hdb he hpl) fun _ _ _ t => fn_weak hs t⟩
end
theorem sv1 {K : PySem.W.Frag} {F : Hp} {ι : List Addr} {xs : List V} {s : SV} (h : SvAll K F ι xs [s]) : ∃ x, xs = [x] ∧ SvR K F ι x s := by
  cases h with
  | cons r t => cases t; exact ⟨_, rfl, r⟩
theorem sv2 {K : PySem.W.Frag} {F : Hp} {ι : List Addr} {xs : List V} {s u : SV} (h : SvAll K F ι xs [s, u]) : ∃ x y, xs = [x, y] ∧ SvR K F ι x s ∧ SvR K F ι y u := by
  cases h with
  | cons r t => cases t with
    | cons r2 t => cases t; exact ⟨_, _, rfl, r, r2⟩

/-! ### len, abs, int, list, tuple -/
def lenS (st : Store) : SV → Option Nat
  | .d (.str s) => some s.length
  | .d (.scr ns) => some ns.length
  | s => (items st s).map (·.length)
def dLen (st : Store) : List SV → Option SV
  | [s] => (lenS st s).map fun (n : Nat) => .d (.int (n : Int))
  | _ => none
theorem cs_len {K : PySem.W.Frag} : CallS K (fun xs H Q => ∃ (x : V) (n : Nat), xs = [x] ∧ LenV K x H n ∧ Q (.int n) H) dLen := by
  intro W σ H ι δ st xs ss s Q R r e q
  show ∃ (x : V) (n : Nat), _
  unfold dLen at e
  split at e
  · rename_i s1
    obtain ⟨(n : Nat), h1, h2⟩ := Option.map_eq_some_iff.mp e
    subst h2
    obtain ⟨x, rfl, rx⟩ := sv1 r
    refine ⟨x, n, rfl, ?_, q _ H (Same.refl H) (svi _)⟩
    unfold lenS at h1
    split at h1
    · cases h1
      obtain ⟨rfl, k⟩ := dr_str rx
      exact ⟨by simpa [Str.length] using sOk_len k, by simp [Str.length]⟩
    · cases h1
      rename_i ns
      have h : Dr K (fz H W ι) x (.scr ns) := rx
      cases h with
      | scr h => exact .inl ⟨_, le_fz.seqL h, by simp⟩
    · obtain ⟨ss, h3, h4⟩ := Option.map_eq_some_iff.mp h1
      subst h4
      obtain ⟨a, ys, rfl, hq, k⟩ := items_ok R.sto rx h3
      have hl : ys.length = ss.length := Paired.length k
      rcases hq with ⟨_, hq⟩ | hq
      · exact .inl ⟨_, hq, hl.symm⟩
      · exact .inr ⟨_, hq, hl.symm⟩
  · cases e
def dAbs (_ : Store) : List SV → Option SV
  | [.d (.int i)] => some (.d (.int (if i < 0 then -i else i)))
  | _ => none
theorem cs_abs {K : PySem.W.Frag} : CallS K (fun xs H Q => ∃ i, xs = [.int i] ∧ Q (.int (if i < 0 then -i else i)) H) dAbs := by
  intro W σ H ι δ st xs ss s Q R r e q
  unfold dAbs at e
  split at e
  · cases e
    obtain ⟨x, rfl, rx⟩ := sv1 r
    exact ⟨_, by rw [dr_int rx], q _ H (Same.refl H) (svi _)⟩
  · cases e
def dInt1 (_ : Store) : List SV → Option SV
  | [.d (.int i)] => some (.d (.int i))
  | _ => none
theorem cs_int1 {K : PySem.W.Frag} : CallS K (fun xs H Q => (∃ i, xs = [.int i] ∧ Q (.int i) H) ∨ ∃ k, xs = [.bl k] ∧ Q (.int (if k then 1 else 0)) H) dInt1 := by
  intro W σ H ι δ st xs ss s Q R r e q
  unfold dInt1 at e
  split at e
  · cases e
    obtain ⟨x, rfl, rx⟩ := sv1 r
    exact .inl ⟨_, by rw [dr_int rx], q _ H (Same.refl H) (svi _)⟩
  · cases e
/-- list(x), not changed behind -/
def dList (st : Store) : List SV → Option SV
  | [s] => (ditems st s).map fun ds => .d (.lst ds)
  | _ => none
theorem cs_list {K : PySem.W.Frag} : CallS K (fun xs H Q => ∃ p ys, xs = [.ref p] ∧ (SqL K H p ys ∨ SqT K H p ys) ∧ ∀ l, H l = none → Q (.ref l) (upd H l (.lst ys))) dList := by
  intro W σ H ι δ st xs ss s Q R r e q
  unfold dList at e
  split at e
  · obtain ⟨ds, h1, h2⟩ := Option.map_eq_some_iff.mp e
    subst h2
    obtain ⟨x, rfl, rx⟩ := sv1 r
    obtain ⟨a, ys, rfl, hq, k⟩ := ditems_ok R.sto rx h1
    refine ⟨a, ys, rfl, hq.elim (fun h => .inl h.2) .inr, fun l hl => ?_⟩
    have S := same_upd (o := .lst ys) hl
    exact q _ _ S (Dr.lst (fresh_fz R hl) (DrAll.mono (Ps.same S).le k))
  · cases e
def dTuple (st : Store) : List SV → Option SV
  | [.d (.tup ds)] => some (.d (.tup ds))
  | [s] => (litems st s).map fun ds => .d (.tup ds)
  | _ => none
theorem cs_tuple {K : PySem.W.Frag} : CallS K (fun xs H Q => ∃ p ys, xs = [.ref p] ∧ ((SqL K H p ys ∧ ∀ l, H l = none → Q (.ref l) (upd H l (.tup ys))) ∨ (SqT K H p ys ∧ Q (.ref p) H))) dTuple := by
  intro W σ H ι δ st xs ss s Q R r e q
  unfold dTuple at e
  split at e
  · cases e
    rename_i ds
    obtain ⟨x, rfl, rx⟩ := sv1 r
    have h : Dr K (fz H W ι) x (.tup ds) := rx
    cases h with
    | tup g k => exact ⟨_, _, rfl, .inr ⟨le_fz.seqT g, q _ H (Same.refl H) (Dr.tup g k)⟩⟩
  · obtain ⟨ds, h1, h2⟩ := Option.map_eq_some_iff.mp e
    subst h2
    obtain ⟨x, rfl, rx⟩ := sv1 r
    obtain ⟨a, ys, rfl, g, k⟩ := litems_ok R.sto rx h1
    refine ⟨a, ys, rfl, .inl ⟨.of g, fun l hl => ?_⟩⟩
    have S := same_upd (o := .tup ys) hl
    exact q _ _ S (Dr.tup (.inl (.inl (fresh_fz R hl))) (DrAll.mono (Ps.same S).le k))
  · cases e
section
variable {X : Cx} {e : Expr} {f : FE} {pos p : Pos}
theorem de_len (hg : Gl X "len") (hm : X.mg "len" = none) (ha : DE X e f) (hs : starEach [e] X.env = [(false, eval e X.env)] := by rfl) : DE X (.Call (.Name "len" p) [e] [] pos) (cFn dLen (cCons f cNil)) :=
  de_callB call_len cs_len hg hm PySem.boot_len (da_cons ha da_nil hs) (he := hs)
theorem de_abs (hg : Gl X "abs") (hm : X.mg "abs" = none) (ha : DE X e f) (hs : starEach [e] X.env = [(false, eval e X.env)] := by rfl) : DE X (.Call (.Name "abs" p) [e] [] pos) (cFn dAbs (cCons f cNil)) :=
  de_callB call_abs cs_abs hg hm (by decide +kernel) (da_cons ha da_nil hs) (he := hs)
theorem de_int1 (hg : Gl X "int") (hm : X.mg "int" = none) (ha : DE X e f) (hs : starEach [e] X.env = [(false, eval e X.env)] := by rfl) : DE X (.Call (.Name "int" p) [e] [] pos) (cFn dInt1 (cCons f cNil)) :=
  de_callTy call_int1 cs_int1 hg hm (by decide +kernel) (da_cons ha da_nil hs) (he := hs)
theorem de_list (hg : Gl X "list") (hm : X.mg "list" = none) (ha : DE X e f) (hs : starEach [e] X.env = [(false, eval e X.env)] := by rfl) : DE X (.Call (.Name "list" p) [e] [] pos) (cFn dList (cCons f cNil)) :=
  de_callTy call_list_of cs_list hg hm (by decide +kernel) (da_cons ha da_nil hs) (he := hs)
theorem de_tuple (hg : Gl X "tuple") (hm : X.mg "tuple" = none) (ha : DE X e f) (hs : starEach [e] X.env = [(false, eval e X.env)] := by rfl) : DE X (.Call (.Name "tuple" p) [e] [] pos) (cFn dTuple (cCons f cNil)) :=
  de_callTy call_tuple_of cs_tuple hg hm (by decide +kernel) (da_cons ha da_nil hs) (he := hs)
end

/-! ### isinstance(x, T), T a built-in type -/
def tyS (st : Store) : SV → Option String
  | .d .non => some "NoneType"
  | .d (.bl _) => some "bool"
  | .d (.int _) => some "int"
  | .d (.str _) => some "str"
  | .d (.tup _) => some "tuple"
  | .d (.lst _) => some "list"
  | .d (.dk _) => some "dict"
  | .d (.scr _) => none
  | .r n => match st[n]? with
    | some (.lst _) => some "list"
    | some (.dk _) => some "dict"
    | _ => none
def isTy (T a : String) : Bool := a == T || (a == "bool" && T == "int")
theorem tyS_ok {K : PySem.W.Frag} {W : Addr → Prop} {H : Hp} {ι : List Addr} {st : Store} {v : V} {s : SV} {T : String} (R : Sto K W H ι st) (h : SvR K (fz H W ι) ι v s) (e : tyS st s = some T) : TyX K H v (.type T) := by
  unfold tyS at e
  split at e
  · cases e; cases (show Dr K (fz H W ι) v .non from h); exact .base .non
  · cases e; cases (show Dr K (fz H W ι) v (.bl _) from h); exact .base (.bl _)
  · cases e; cases (show Dr K (fz H W ι) v (.int _) from h); exact .base (.int _)
  · cases e; cases (show Dr K (fz H W ι) v (.str _) from h); exact .base (.str _)
  · cases e
    cases (show Dr K (fz H W ι) v (.tup _) from h) with
    | tup g k =>
      rcases le_fz.seqT g with (g | ⟨ob, g⟩) | ⟨o, its, n, g1, g2, g3, g4⟩
      · exact .base (.tup g)
      · exact .fTuple g
      · exact .kTuple g1 g2
  · cases e
    cases (show Dr K (fz H W ι) v (.lst _) from h) with
    | lst g k => exact .base (.lst (le_fz.lst g))
  · cases e
    cases (show Dr K (fz H W ι) v (.dk _) from h) with
    | dk g u _ _ =>
      have g' := (fz_of g).2.2
      rename_i o kvs
      unfold unl at u
      split at u
      · exact .fDict g'
      · cases u
      · subst u; exact .base (.dK g')
  · cases e
  · split at e
    · rename_i e2
      cases e
      obtain ⟨a, h1, rfl, xs, h3, h4⟩ := R.r h e2
      exact .base (.lst h3)
    · rename_i e2
      cases e
      obtain ⟨a, h1, rfl, kvs, h3, h4, h5⟩ := R.r h e2
      exact .base (.dK h3)
    · cases e
theorem tyS_mem {st : Store} {s : SV} {a : String} (h : tyS st s = some a) : a ∈ ["NoneType", "bool", "int", "str", "tuple", "list", "dict"] := by
  unfold tyS at h
  split at h <;> first | (cases h; simp; done) | (cases h; done) | skip
  split at h <;> cases h <;> simp
def cIsi (T : String) (f : FE) : FE := fun δ st => (f δ st).bind fun p => (tyS p.2 p.1).bind fun a => some (.d (.bl (isTy T a)), p.2)
theorem de_isi {X : Cx} {e : Expr} {f : FE} {pos p p2 : Pos} {y : Str} {T : String} (hg : Gl X "isinstance") (hm : X.mg "isinstance" = none) (hg2 : Gl X y) (hm2 : X.mg y = none) (hv2 : bootBuiltins y = some (.type T))
    (hk : ∀ a ∈ ["NoneType", "bool", "int", "str", "tuple", "list", "dict"], kitB a T = some (isTy T a)) (ha : DE X e f) (hy : y ≠ "__name__" := by decide) (hyd : (y == ("__debug__" : Str)) = false := by decide)
    (hs : starEach [e, .Name y p2] X.env = (false, eval e X.env) :: starEach [.Name y p2] X.env := by rfl) :
    DE X (.Call (.Name "isinstance" p) [e, .Name y p2] [] pos) (cIsi T f) := by
  refine ⟨PE_weak (pe_callB call_isi hg hm (by decide +kernel) (pa_cons ha.pe (pa_cons (pe_bltn (v := .ty T) hg2 hm2 hv2 rfl hy hyd) pa_nil) hs) (he := hs)) ?_⟩
  rintro σ H Q ⟨W, ι, δ, st, s, st', R, h, q⟩
  obtain ⟨p, h1, h⟩ := Option.bind_eq_some_iff.mp h
  obtain ⟨a, h3, h⟩ := Option.bind_eq_some_iff.mp h
  cases h
  refine ⟨W, ι, δ, st, p.1, p.2, R, h1, fun v H1 ι1 P1 R1 r1 => ?_⟩
  refine ⟨v, .ty T, .type a, .type T, isTy T a, rfl, .ty T, tyS_ok R1.sto r1 h3, kit_ty (hk a (tyS_mem h3)), ?_⟩
  exact q _ H1 ι1 P1 R1 (svb _)
section
variable {X : Cx} {e : Expr} {f : FE} {pos p p2 : Pos}
theorem kit_int : ∀ a ∈ ["NoneType", "bool", "int", "str", "tuple", "list", "dict"], kitB a "int" = some (isTy "int" a) := by decide +kernel
theorem kit_bool : ∀ a ∈ ["NoneType", "bool", "int", "str", "tuple", "list", "dict"], kitB a "bool" = some (isTy "bool" a) := by decide +kernel
theorem kit_str : ∀ a ∈ ["NoneType", "bool", "int", "str", "tuple", "list", "dict"], kitB a "str" = some (isTy "str" a) := by decide +kernel
theorem kit_tuple : ∀ a ∈ ["NoneType", "bool", "int", "str", "tuple", "list", "dict"], kitB a "tuple" = some (isTy "tuple" a) := by decide +kernel
theorem kit_list : ∀ a ∈ ["NoneType", "bool", "int", "str", "tuple", "list", "dict"], kitB a "list" = some (isTy "list" a) := by decide +kernel
end

/-! ### defs -/
def isDat : SV → Bool
  | .d _ => true
  | .r _ => false
def svB (m : Nat) : SV → Bool
  | .d _ => true
  | .r n => decide (n < m)
def moB (m : Nat) : MO → Bool
  | .lst ss => ss.all (svB m)
  | .dk es => es.all fun p => svB m p.2
  | .ob _ fs => fs.all fun p => svB m p.2
/-- as much of the store as the arguments speak of -/
def kOf : List SV → Nat
  | [] => 0
  | .d _ :: r => kOf r
  | .r n :: r => max (n + 1) (kOf r)
/-- what a def gives: it is run over the part of the store that it is given, if that part speaks of itself alone -/
def callM (F : List SV → Store → Option (SV × Store)) (ss : List SV) (st : Store) : Option (SV × Store) :=
  if (st.take (kOf ss)).all (moB (kOf ss)) = true then (F ss (st.take (kOf ss))).bind fun p => some (p.1, p.2 ++ st.drop (kOf ss)) else F ss st
def cCall (F : List SV → Store → Option (SV × Store)) (fs : FA) : FE := fun δ st => (fs δ st).bind fun p => callM F p.1 p.2
def spM (K : PySem.W.Frag) (n : Nat) (F : List SV → Store → Option (SV × Store)) : Sp := fun vs H Q _ => vs.length = n ∧ ∃ W ι st ss s st', Sto K W H ι st ∧ SvAll K (fz H W ι) ι vs ss ∧ F ss st = some (s, st') ∧
  ∀ v H', Ps H ι H' ι → Sto K W H' ι st' → SvR K (fz H' W ι) ι v s → Q v H'
abbrev FnD (P : Program) (w : World) (K : PySem.W.Frag) (mg : Str → Option Value) (base : Heap) (k : Nat) (f : Addr) (fd : FuncData) (ps : List Str) (F : List SV → Store → Option (SV × Store)) : Prop := FnOk P w K mg base CX0 k f fd ps (spM K ps.length F)
theorem fz_out {H : Hp} {W : Addr → Prop} {ι : List Addr} (k : Nat) : fz H (fun a => W a ∨ a ∈ ι.drop k) (ι.take k) = fz H W ι := by
  funext b
  have hm : b ∈ ι ↔ b ∈ ι.take k ∨ b ∈ ι.drop k := by
    conv => lhs; rw [← List.take_append_drop k ι]
    exact List.mem_append
  by_cases h : W b ∨ b ∈ ι
  · rw [fz_none h, fz_none]
    rcases h with h | h
    · exact .inl (.inl h)
    · rcases hm.mp h with h | h
      · exact .inr h
      · exact .inl (.inr h)
  · rw [fz_at (fun z => z.elim (fun z => h (.inl z)) fun z => h (.inr (hm.mpr (.inr z)))) (fun z => h (.inr (hm.mpr (.inl z)))), fz_at (fun z => h (.inl z)) (fun z => h (.inr z))]
theorem svr_take {K : PySem.W.Frag} {F : Hp} {ι : List Addr} {v : V} {s : SV} {k : Nat} (h : SvR K F ι v s) (e : svB k s = true) : SvR K F (ι.take k) v s := by
  cases s with
  | d x => exact h
  | r n =>
    obtain ⟨a, h1, h2⟩ := h
    exact ⟨a, by rw [List.getElem?_take_of_lt (of_decide_eq_true e)]; exact h1, h2⟩
theorem svr_untake {K : PySem.W.Frag} {F : Hp} {ι : List Addr} {v : V} {s : SV} {k : Nat} (h : SvR K F (ι.take k) v s) : SvR K F ι v s := by
  cases s with
  | d x => exact h
  | r n =>
    obtain ⟨a, h1, h2⟩ := h
    exact ⟨a, pre_get (List.take_prefix k ι) h1, h2⟩
theorem svAll_take {K : PySem.W.Frag} {F : Hp} {ι : List Addr} {k : Nat} : ∀ {vs : List V} {ss : List SV}, SvAll K F ι vs ss → ss.all (svB k) = true → SvAll K F (ι.take k) vs ss
  | _, _, .nil, _ => .nil
  | _, _, .cons r t, e => by
    rw [List.all_cons, Bool.and_eq_true] at e
    exact .cons (svr_take r e.1) (svAll_take t e.2)
theorem svB_le {k m : Nat} (h : k ≤ m) : ∀ {s : SV}, svB k s = true → svB m s = true
  | .d _, _ => rfl
  | .r n, e => decide_eq_true (Nat.lt_of_lt_of_le (of_decide_eq_true e) h)
theorem kOf_ok : ∀ ss : List SV, ss.all (svB (kOf ss)) = true
  | [] => rfl
  | .d x :: r => by
    have h := kOf_ok r
    rw [List.all_cons]
    exact Bool.and_eq_true_iff.mpr ⟨rfl, h⟩
  | .r n :: r => by
    have h := kOf_ok r
    rw [List.all_cons]
    refine Bool.and_eq_true_iff.mpr ⟨decide_eq_true (by unfold kOf; omega), ?_⟩
    rw [List.all_eq_true] at h ⊢
    exact fun s hs => svB_le (show kOf r ≤ max (n + 1) (kOf r) by omega) (h s hs)
theorem mor_take {K : PySem.W.Frag} {F H : Hp} {ι : List Addr} {a : Addr} {o : MO} {k : Nat} (h : MoR K F H ι a o) (e : moB k o = true) : MoR K F H (ι.take k) a o := by
  unfold MoR at h ⊢
  split at h
  · obtain ⟨xs, h1, h2⟩ := h
    exact ⟨xs, h1, svAll_take h2 e⟩
  · obtain ⟨xs, h1, h3, h2⟩ := h
    exact ⟨xs, h1, h3, svAll_take h2 (by rw [List.all_map]; exact e)⟩
  · obtain ⟨dx, xs, h1, h3, h2⟩ := h
    exact ⟨dx, xs, h1, h3, svAll_take h2 (by rw [List.all_map]; exact e)⟩
theorem mor_untake {K : PySem.W.Frag} {F H : Hp} {ι : List Addr} {a : Addr} {o : MO} {k : Nat} (h : MoR K F H (ι.take k) a o) : MoR K F H ι a o := by
  unfold MoR at h ⊢
  split at h
  · obtain ⟨xs, h1, h2⟩ := h
    exact ⟨xs, h1, L2.Paired.mapP h2 fun _ _ r => svr_untake r⟩
  · obtain ⟨xs, h1, h3, h2⟩ := h
    exact ⟨xs, h1, h3, L2.Paired.mapP h2 fun _ _ r => svr_untake r⟩
  · obtain ⟨dx, xs, h1, h3, h2⟩ := h
    exact ⟨dx, xs, h1, h3, L2.Paired.mapP h2 fun _ _ r => svr_untake r⟩
theorem MoR.mono' {K : PySem.W.Frag} {F F' H H' : Hp} {ι : List Addr} {a : Addr} {o : MO} (h : MoR K F H ι a o) (hf : Le F F') (ha : ∀ u, H a = some u → H' a = some u) : MoR K F' H' ι a o := h.mono hf (List.prefix_refl _) ha
theorem take_nd {ι : List Addr} (h : ι.Nodup) (k : Nat) : (ι.take k).Nodup ∧ ∀ a ∈ ι.take k, a ∉ ι.drop k := by
  have e : ι.take k ++ ι.drop k = ι := List.take_append_drop k ι
  rw [← e] at h
  obtain ⟨h1, h2, h3⟩ := List.nodup_append.mp h
  exact ⟨h1, fun a ha hb => h3 a ha a hb rfl⟩
theorem sp_call {K : PySem.W.Frag} {n : Nat} {F : List SV → Store → Option (SV × Store)} {W : Addr → Prop} {H : Hp} {ι : List Addr} {st st' : Store} {vs : List V} {ss : List SV} {s : SV} {Q : VK} {E : XK} (S : Sto K W H ι st) (r : SvAll K (fz H W ι) ι vs ss)
    (hn : vs.length = n) (e : callM F ss st = some (s, st')) (q : ∀ v H', Ps H ι H' ι → Sto K W H' ι st' → SvR K (fz H' W ι) ι v s → Q v H') : spM K n F vs H Q E := by
  unfold callM at e
  have hk := kOf_ok ss
  generalize kOf ss = k at e hk
  split at e
  · rename_i c
    obtain ⟨p, h1, e⟩ := Option.bind_eq_some_iff.mp e
    obtain ⟨s1, st2⟩ := p
    have ea : s1 = s := congrArg Prod.fst (Option.some.inj e)
    have eb : st2 ++ st.drop k = st' := congrArg Prod.snd (Option.some.inj e)
    clear e
    subst ea eb
    obtain ⟨nd1, nd2⟩ := take_nd S.nd k
    refine ⟨hn, fun a => W a ∨ a ∈ ι.drop k, ι.take k, st.take k, ss, s1, st2, ⟨nd1, by rw [List.length_take, List.length_take, S.len], fun a h z => z.elim (S.wd a (List.mem_of_mem_take h)) (nd2 a h), fun a h => h.elim (S.wn a) (fun z => S.ne (List.mem_of_mem_drop z)), fun n o a h1 h2 => ?_⟩, ?_, h1, fun v H' P2 S2 r2 => ?_⟩
    · rw [fz_out]
      have hl : n < k := by
        have := (List.getElem?_eq_some_iff.mp h1).1
        rw [List.length_take] at this
        omega
      have g1 : st[n]? = some o := by rw [← List.getElem?_take_of_lt hl]; exact h1
      have g2 : ι[n]? = some a := by rw [← List.getElem?_take_of_lt hl]; exact h2
      exact mor_take (S.mo n o a g1 g2) (List.all_eq_true.mp c o (List.mem_of_getElem? h1))
    · rw [fz_out]
      exact svAll_take r hk
    · have P : Ps H ι H' ι := ⟨fun a o ha ho => P2.keep a o (fun z => ha (List.mem_of_mem_take z)) ho, P2.dom, fun a h => .inl h, List.prefix_refl _⟩
      have l2 := S2.len
      rw [List.length_take] at l2
      have hlen := S.len
      refine q v H' P ⟨S.nd, ?_, S.wd, fun a h => P2.dom a (S.wn a h), fun n o a h1 h2 => ?_⟩ ?_
      · rw [List.length_append, List.length_drop]
        omega
      · have hn : n < ι.length := (List.getElem?_eq_some_iff.mp h2).1
        by_cases hl : n < st2.length
        · rw [List.getElem?_append_left hl] at h1
          have g2 : (ι.take k)[n]? = some a := by rw [List.getElem?_take_of_lt (by omega)]; exact h2
          have g := S2.mo n o a h1 g2
          rw [fz_out] at g
          exact mor_untake g
        · rw [List.getElem?_append_right (by omega), List.getElem?_drop] at h1
          have ek : k + (n - st2.length) = n := by omega
          rw [ek] at h1
          have ha : a ∉ ι.take k := fun z => by
            obtain ⟨j, hj, ej⟩ := List.getElem_of_mem z
            have hj' : j < k ∧ j < ι.length := by rw [List.length_take] at hj; omega
            have e1 : ι[j]? = some a := by rw [← List.getElem?_take_of_lt hj'.1, List.getElem?_eq_getElem hj, ej]
            obtain ⟨b1, b2⟩ := List.getElem?_eq_some_iff.mp e1
            obtain ⟨c1, c2⟩ := List.getElem?_eq_some_iff.mp h2
            have := (List.getElem_inj (h₀ := b1) (h₁ := c1) S.nd).mp (b2.trans c2.symm)
            omega
          exact (S.mo n o a h1 h2).mono' P.le fun u hu => P2.keep a u ha hu
      · rw [fz_out] at r2
        exact svr_untake r2
  · exact ⟨hn, W, ι, st, ss, s, st', S, r, e, q⟩
section
variable {X : Cx} {k : Nat} {f : Addr} {fd : FuncData} {ps : List Str} {F : List SV → Store → Option (SV × Store)} {x : Str} {p pos : Pos} {e : Expr} {es : List Expr} {fs : FA}
theorem de_call (G : FnD X.prog X.w X.K X.mg X.base k f fd ps F) (hr : Room k X.A) (hg : Gl X x) (hm : X.mg x = some (.ref f)) (hk : PySem.W.keepIn X.K (.ref f) = true) (hb : Binds X.K fd ps [])
    (ha : DA X (e :: es) fs) (hl : ps.length = (e :: es).length := by rfl) (hdb : (x == ("__debug__" : Str)) = false := by decide) (he : starEach (e :: es) X.env = (false, eval e X.env) :: starEach es X.env := by rfl) (hpl : (backTo pos (starEach es X.env)).any (·.1) = false := by rfl) :
    DE X (.Call (.Name x p) (e :: es) [] pos) (cCall F fs) := by
  refine ⟨PE_weak (pe_call G hr hg hm hk hb .nil pass0 ha.pa hdb he hpl) ?_⟩
  rintro σ H Q ⟨W, ι, δ, st, s, st', R, h, q⟩
  obtain ⟨p, h1, h⟩ := Option.bind_eq_some_iff.mp h
  refine ⟨W, ι, δ, st, p.1, p.2, R, h1, fun vs H1 ι1 P1 R1 r1 => ?_⟩
  have hn : vs.length = ps.length := by
    rw [hl, ← ha.len _ _ _ h1]
    exact Paired.length r1
  show spM X.K ps.length F (vs ++ []) H1 Q E0
  rw [List.append_nil]
  exact sp_call R1.sto r1 hn h fun v H' P2 S2 r2 => q v H' ι1 (P1.trans P2) (R1.move P2 S2) r2
end
end DL

set_option maxHeartbeats 1000000
/-! DF: statements, targets, loops, comprehensions. -/
namespace DL
open PySem PySem.Spec L2

/-! ### small statements -/
def cSkip : FS := fun δ st => some (.nx, δ, st)
def cSeq (g h : FS) : FS := fun δ st => (g δ st).bind fun p => match p.1 with
  | .nx => h p.2.1 p.2.2
  | _ => some p
def cExpr (f : FE) : FS := fun δ st => (f δ st).bind fun p => some (.nx, δ, p.2)
def cRet (f : FE) : FS := fun δ st => (f δ st).bind fun p => some (.rt p.1, δ, p.2)
def cRetN : FS := fun δ st => some (.rt (.d .non), δ, st)
def cBrk : FS := fun δ st => some (.bk, δ, st)
def cCnt : FS := fun δ st => some (.ct, δ, st)
def cIfS (t : FT) (g h : FS) : FS := fun δ st => (t δ st).bind fun p => if p.1 = true then g δ p.2 else h δ p.2
def cSet (i : Nat) (f : FE) : FS := fun δ st => (f δ st).bind fun p => some (.nx, δ.set i (some p.1), p.2)
/-- name += e -/
def cAug (i : Nat) (g : SV → SV → Option SV) (f : FE) : FS := fun δ st => (δ[i]?).bind fun o => o.bind fun s => (f δ st).bind fun p => (g s p.1).bind fun z => some (.nx, δ.set i (some z), p.2)
theorem Rl.set {K : PySem.W.Frag} {W : Addr → Prop} {σ : L2.St} {H : Hp} {ι : List Addr} {δ : Env} {st : Store} {v : V} {s : SV} (R : Rl K W σ H ι δ st) (i : Nat) (r : SvR K (fz H W ι) ι v s) : Rl K W (σ.set i (some v)) H ι (δ.set i (some s)) st := by
  refine ⟨R.sto, by simp [R.len], fun j s' h => ?_⟩
  by_cases e : i = j
  · subst e
    by_cases hi : i < δ.length
    · rw [List.getElem?_set_self hi] at h
      cases h
      exact ⟨v, List.getElem?_set_self (by rw [← R.len]; exact hi), r⟩
    · rw [List.getElem?_eq_none (by simp; omega)] at h
      cases h
  · rw [List.getElem?_set_ne e] at h
    obtain ⟨v', h1, h2⟩ := R.sl j s' h
    exact ⟨v', by rw [List.getElem?_set_ne e]; exact h1, h2⟩
section
variable {X : Cx} {st : Stmt} {rest : List Stmt} {g h : FS} {e c : Expr} {f : FE} {t : FT} {pos : Pos}
theorem dss_nil : DSs X [] cSkip := ⟨PSs_weak pss_nil fun D σ H ⟨W, ι, δ, st, o, δ', st', R, e, q⟩ => by
  cases e
  exact q σ H ι (Ps.refl _ _) R⟩
theorem dss_cons (h1 : DS X st g) (h2 : DSs X rest h) : DSs X (st :: rest) (cSeq g h) := by
  refine ⟨PSs_weak (pss_cons h1.ps h2.ps) ?_⟩
  rintro D σ H ⟨W, ι, δ, st, o, δ', st', R, e, q⟩
  obtain ⟨p, e1, e⟩ := Option.bind_eq_some_iff.mp e
  obtain ⟨o1, δ1, st1⟩ := p
  refine ⟨W, ι, δ, st, o1, δ1, st1, R, e1, fun σ' H' ι' P1 R1 => ?_⟩
  cases o1 with
  | nx => exact ⟨W, ι', δ1, st1, o, δ', st', R1, e, fun σ2 H2 ι2 P2 R2 => q σ2 H2 ι2 (P1.trans P2) R2⟩
  | _ => cases e; exact q σ' H' ι' P1 R1
theorem dss_one (h1 : DS X st g) : DSs X [st] g := ⟨pss_one h1.ps⟩
theorem ds_expr (he : DE X e f) (hs : swapsWith e none pos.line X.env = pure false := by rfl) : DS X (.Expr e pos) (cExpr f) := by
  refine ⟨PS_weak (ps_expr he.pe hs) ?_⟩
  rintro D σ H ⟨W, ι, δ, st, o, δ', st', R, e, q⟩
  obtain ⟨p, e1, e⟩ := Option.bind_eq_some_iff.mp e
  cases e
  exact ⟨W, ι, δ, st, p.1, p.2, R, e1, fun v H1 ι1 P1 R1 r1 => q σ H1 ι1 P1 R1⟩
theorem ds_doc {x j pos'} : DS X (.Expr (.Constant (.str x) j pos') pos) cSkip := ⟨PS_weak ps_doc fun D σ H ⟨W, ι, δ, st, o, δ', st', R, e, q⟩ => by
  cases e
  exact q σ H ι (Ps.refl _ _) R⟩
theorem ds_pass : DS X (.Pass pos) cSkip := ⟨PS_weak ps_pass fun D σ H ⟨W, ι, δ, st, o, δ', st', R, e, q⟩ => by
  cases e
  exact q σ H ι (Ps.refl _ _) R⟩
theorem ds_brk : DS X (.Break pos) cBrk := ⟨PS_weak ps_break fun D σ H ⟨W, ι, δ, st, o, δ', st', R, e, q⟩ => by
  cases e
  exact q σ H ι (Ps.refl _ _) R⟩
theorem ds_cnt : DS X (.Continue pos) cCnt := ⟨PS_weak ps_continue fun D σ H ⟨W, ι, δ, st, o, δ', st', R, e, q⟩ => by
  cases e
  exact q σ H ι (Ps.refl _ _) R⟩
theorem ds_ret (he : DE X e f) : DS X (.Return (some e) pos) (cRet f) := by
  refine ⟨PS_weak (ps_ret he.pe) ?_⟩
  rintro D σ H ⟨W, ι, δ, st, o, δ', st', R, e, q⟩
  obtain ⟨p, e1, e⟩ := Option.bind_eq_some_iff.mp e
  cases e
  exact ⟨W, ι, δ, st, p.1, p.2, R, e1, fun v H1 ι1 P1 R1 r1 => q σ H1 ι1 P1 R1 v r1⟩
theorem ds_retN : DS X (.Return none pos) cRetN := ⟨PS_weak ps_retN fun D σ H ⟨W, ι, δ, st, o, δ', st', R, e, q⟩ => by
  cases e
  exact q σ H ι (Ps.refl _ _) R _ Dr.non⟩
theorem ds_if {a b : List Stmt} (hc : DT X c t) (ha : DSs X a g) (hb : DSs X b h) : DS X (.If c a b pos) (cIfS t g h) := by
  refine ⟨PS_weak (ps_if hc.pt ha.ps hb.ps) ?_⟩
  rintro D σ H ⟨W, ι, δ, st, o, δ', st', R, e, q⟩
  obtain ⟨p, e1, e⟩ := Option.bind_eq_some_iff.mp e
  refine ⟨W, ι, δ, st, p.1, p.2, R, e1, fun H1 ι1 P1 R1 => ?_⟩
  cases c : p.1 with
  | true =>
    rw [if_pos c] at e
    exact (if_pos rfl).mpr ⟨W, ι1, δ, p.2, o, δ', st', R1, e, fun σ2 H2 ι2 P2 R2 => q σ2 H2 ι2 (P1.trans P2) R2⟩
  | false =>
    rw [if_neg (by rw [c]; exact Bool.false_ne_true)] at e
    exact (if_neg Bool.false_ne_true).mpr ⟨W, ι1, δ, p.2, o, δ', st', R1, e, fun σ2 H2 ι2 P2 R2 => q σ2 H2 ι2 (P1.trans P2) R2⟩
theorem ds_set {i : Nat} {x : Str} {pos' : Pos} (hN : X.N.Nodup) (hi : X.N[i]? = some x) (hx : Loc X.env.scope x) (he : DE X e f) (hs : swapsWith e (some (.Name x pos')) pos.line X.env = pure false := by rfl)
    (hf : X.fn x = true ∨ X.env.scope.names.lookup x = some .local := by first | exact .inl rfl | exact .inr rfl | assumption) : DS X (.Assign [.Name x pos'] e pos) (cSet i f) := by
  refine ⟨PS_weak (ps_set hN hi hx he.pe hs hf) ?_⟩
  rintro D σ H ⟨W, ι, δ, st, o, δ', st', R, e, q⟩
  obtain ⟨p, e1, e⟩ := Option.bind_eq_some_iff.mp e
  cases e
  exact ⟨W, ι, δ, st, p.1, p.2, R, e1, fun v H1 ι1 P1 R1 r1 => q _ H1 ι1 P1 (R1.set i r1)⟩
def gAddI : SV → SV → Option SV
  | .d (.int a), .d (.int b) => some (.d (.int (a + b)))
  | _, _ => none
def gSubI : SV → SV → Option SV
  | .d (.int a), .d (.int b) => some (.d (.int (a - b)))
  | _, _ => none
theorem aug_weak {i : Nat} {n : Int → Int → Int} {g : SV → SV → Option SV} (hg : ∀ s u z, g s u = some z → ∃ a b, s = .d (.int a) ∧ u = .d (.int b) ∧ z = .d (.int (n a b))) {K : PySem.W.Frag} {D : Ends} {σ : L2.St} {H : Hp}
    (t : tS K (cAug i g f) D σ H) : tAug i (tE K f) (ipI n) D σ H := by
  obtain ⟨W, ι, δ, st, o, δ', st', R, e, q⟩ := t
  obtain ⟨o1, h1, e⟩ := Option.bind_eq_some_iff.mp e
  obtain ⟨s1, h2, e⟩ := Option.bind_eq_some_iff.mp e
  obtain ⟨p, h3, e⟩ := Option.bind_eq_some_iff.mp e
  obtain ⟨z, h4, e⟩ := Option.bind_eq_some_iff.mp e
  cases e
  subst h2
  obtain ⟨a, b, rfl, eb, rfl⟩ := hg _ _ _ h4
  obtain ⟨v, hv, rv⟩ := R.sl i _ h1
  refine ⟨v, hv, W, ι, δ, st, p.1, p.2, R, h3, fun u H1 ι1 P1 R1 r1 => ?_⟩
  rw [eb] at r1
  exact ⟨a, b, dr_int rv, dr_int r1, q _ H1 ι1 P1 (R1.set i (svi _))⟩
theorem ds_augAdd {i : Nat} {x : Str} {pos' : Pos} (hN : X.N.Nodup) (hi : X.N[i]? = some x) (hx : Loc X.env.scope x) (he : DE X e f) (hf : X.fn x = true ∨ X.env.scope.names.lookup x = some .local := by first | exact .inl rfl | exact .inr rfl | assumption) :
    DS X (.AugAssign (.Name x pos') .Add e pos) (cAug i gAddI f) := ⟨PS_weak (ps_aug hN hi hx he.pe ip_add hf) fun D σ H t => aug_weak (fun s u z h => by
  unfold gAddI at h
  split at h <;> cases h
  exact ⟨_, _, rfl, rfl, rfl⟩) t⟩
theorem ds_augSub {i : Nat} {x : Str} {pos' : Pos} (hN : X.N.Nodup) (hi : X.N[i]? = some x) (hx : Loc X.env.scope x) (he : DE X e f) (hf : X.fn x = true ∨ X.env.scope.names.lookup x = some .local := by first | exact .inl rfl | exact .inr rfl | assumption) :
    DS X (.AugAssign (.Name x pos') .Sub e pos) (cAug i gSubI f) := ⟨PS_weak (ps_aug hN hi hx he.pe ip_sub hf) fun D σ H t => aug_weak (fun s u z h => by
  unfold gSubI at h
  split at h <;> cases h
  exact ⟨_, _, rfl, rfl, rfl⟩) t⟩
end

/-! ### targets -/
/-- only the slots of ns are others -/
def Off (ns : List Nat) (σ σ' : L2.St) : Prop := σ'.length = σ.length ∧ ∀ i, i ∉ ns → σ'[i]? = σ[i]?
theorem Off.refl (ns : List Nat) (σ : L2.St) : Off ns σ σ := ⟨rfl, fun _ _ => rfl⟩
abbrev FG := Store → SV → Env → Option Env
def tG (K : PySem.W.Frag) (ns : List Nat) (g : FG) : TG := fun v σ H Q => ∃ W ι δ st s δ', Rl K W σ H ι δ st ∧ SvR K (fz H W ι) ι v s ∧ g st s δ = some δ' ∧ ∀ σ', Off ns σ σ' → Rl K W σ' H ι δ' st → Q σ' H
def tGs (K : PySem.W.Frag) (ns : List Nat) (g : Store → List SV → Env → Option Env) : TGs := fun vs σ H Q => ∃ W ι δ st ss δ', Rl K W σ H ι δ st ∧ SvAll K (fz H W ι) ι vs ss ∧ g st ss δ = some δ' ∧ ∀ σ', Off ns σ σ' → Rl K W σ' H ι δ' st → Q σ' H
structure DG (X : Cx) (tg : Expr) (ns : List Nat) (g : FG) : Prop where
  pg : PG X tg (tG X.K ns g)
structure DGs (X : Cx) (tgs : List Expr) (ns : List Nat) (g : Store → List SV → Env → Option Env) : Prop where
  pgs : PGs X tgs (tGs X.K ns g)
def gN (i : Nat) : FG := fun _ s δ => some (δ.set i (some s))
def gsNil : Store → List SV → Env → Option Env := fun _ ss δ => match ss with | [] => some δ | _ => none
def gsCons (g : FG) (gs : Store → List SV → Env → Option Env) : Store → List SV → Env → Option Env := fun st ss δ => match ss with | s :: r => (g st s δ).bind fun δ1 => gs st r δ1 | [] => none
def gTp (n : Nat) (gs : Store → List SV → Env → Option Env) : FG := fun st s δ => match s with
  | .d (.tup ds) => if ds.length = n then gs st (ds.map .d) δ else none
  | _ => none
section
variable {X : Cx} {pos : Pos}
theorem dg_name {i : Nat} {x : Str} (hN : X.N.Nodup) (hi : X.N[i]? = some x) (hx : Loc X.env.scope x) (hf : X.fn x = true ∨ X.env.scope.names.lookup x = some .local := by first | exact .inl rfl | exact .inr rfl | assumption) : DG X (.Name x pos) [i] (gN i) := by
  refine ⟨⟨fun pins s σ H v u Q I r h => (pg_name hN hi hx hf).run pins s σ H v u Q I r ?_⟩⟩
  obtain ⟨W, ι, δ, st, s, δ', R, rv, e, q⟩ := h
  cases e
  exact q _ ⟨by simp, fun j hj => List.getElem?_set_ne (by simp at hj; exact fun z => hj z.symm)⟩ (R.set i rv)
theorem dgs_nil : DGs X [] [] gsNil := by
  refine ⟨⟨fun pins s σ H vs us Q I r h => pgs_nil.run pins s σ H vs us Q I r ?_⟩⟩
  obtain ⟨W, ι, δ, st, ss, δ', R, rv, e, q⟩ := h
  unfold gsNil at e
  split at e
  · cases e
    cases rv
    exact ⟨rfl, q σ (Off.refl _ _) R⟩
  · cases e
theorem dgs_cons {e : Expr} {es : List Expr} {ns ms : List Nat} {g : FG} {gs : Store → List SV → Env → Option Env} (h1 : DG X e ns g) (h2 : DGs X es ms gs)
    (hs : (assignEach (e :: es) X.env).map (·.2) = assign e X.env :: (assignEach es X.env).map (·.2) := by rfl) : DGs X (e :: es) (ns ++ ms) (gsCons g gs) := by
  refine ⟨⟨fun pins s σ H vs us Q I r h => (pgs_cons h1.pg h2.pgs hs).run pins s σ H vs us Q I r ?_⟩⟩
  obtain ⟨W, ι, δ, st, ss, δ', R, rv, e, q⟩ := h
  unfold gsCons at e
  split at e
  · rename_i s1 r1
    obtain ⟨δ1, e1, e⟩ := Option.bind_eq_some_iff.mp e
    cases rv with
    | cons rv rr =>
      refine ⟨_, _, rfl, W, ι, δ, st, s1, δ1, R, rv, e1, fun σ1 o1 R1 => ⟨W, ι, δ1, st, r1, δ', R1, rr, e, fun σ2 o2 R2 => q σ2 ⟨o2.1.trans o1.1, fun i hi => ?_⟩ R2⟩⟩
      rw [o2.2 i (fun z => hi (List.mem_append_right _ z)), o1.2 i (fun z => hi (List.mem_append_left _ z))]
  · cases e
theorem dg_tup {es : List Expr} {k n : Nat} {ns : List Nat} {gs : Store → List SV → Env → Option Env} (hc : X.calm = true) (h : DGs X es ns gs) (hn : (assignEach es X.env).length = n := by rfl) (hst : (assignEach es X.env).findIdx? (·.1) = none := by rfl) : DG X (.Tuple es k pos) ns (gTp n gs) := by
  refine ⟨⟨fun pins s σ H v u Q I r hw => (pg_tup hc h.pgs hn hst).run pins s σ H v u Q I r ?_⟩⟩
  obtain ⟨W, ι, δ, st, s, δ', R, rv, e, q⟩ := hw
  unfold gTp at e
  split at e
  · rename_i ds
    split at e
    · rename_i hl
      cases (show Dr X.K (fz H W ι) v (.tup ds) from rv) with
      | tup g k => exact ⟨_, _, rfl, le_fz.seqT g, by rw [k.length, hl], W, ι, δ, st, ds.map .d, δ', R, of_drAll k, e, q⟩
    · cases e
  · cases e
def cAsg (g : FG) (f : FE) : FS := fun δ st => (f δ st).bind fun p => (g p.2 p.1 δ).bind fun δ' => some (.nx, δ', p.2)
theorem ds_asg {tg e : Expr} {ns : List Nat} {g : FG} {f : FE} (he : DE X e f) (hg : DG X tg ns g) (hs : swapsWithSole [tg] e pos.line X.env = pure false := by rfl) (hw : swappedStores [tg] e X.env = pure none := by rfl)
    (h1 : (assignEach [tg] X.env).map (·.2) = [assign tg X.env] := by rfl) : DS X (.Assign [tg] e pos) (cAsg g f) := by
  refine ⟨PS_weak (ps_asg he.pe hg.pg hs hw h1) ?_⟩
  rintro D σ H ⟨W, ι, δ, st, o, δ', st', R, e, q⟩
  obtain ⟨p, h1, e⟩ := Option.bind_eq_some_iff.mp e
  obtain ⟨δ2, h2, e⟩ := Option.bind_eq_some_iff.mp e
  cases e
  exact ⟨W, ι, δ, st, p.1, p.2, R, h1, fun v H1 ι1 P1 R1 r1 => ⟨W, ι1, δ, p.2, p.1, δ', R1, r1, h2, fun σ2 o2 R2 => q σ2 H1 ι1 P1 R2⟩⟩
/-- a, b = e1, e2: plain local names -/
def cPar (i j : Nat) (fs : FA) : FS := fun δ st => (fs δ st).bind fun p => match p.1 with
  | [s, u] => some (.nx, (δ.set i (some s)).set j (some u), p.2)
  | _ => none
theorem ds_par {i j : Nat} {x y : Str} {a b : Expr} {fs : FA} {px py pt : Pos} {kt k2 pt2} (hc : X.calm = true) (hN : X.N.Nodup) (hi : X.N[i]? = some x) (hj : X.N[j]? = some y) (hij : i ≠ j)
    (hx : X.env.scope.names.lookup x = some .local) (hy : X.env.scope.names.lookup y = some .local) (ha : DA X [a, b] fs)
    (hw : swappedStores [.Tuple [.Name x px, .Name y py] kt pt] (.Tuple [a, b] k2 pt2) X.env = pure (some [x, y]) := by rfl)
    (hs : swapsWithSole [.Tuple [.Name x px, .Name y py] kt pt] (.Tuple [a, b] k2 pt2) pos.line X.env = pure false := by rfl) :
    DS X (.Assign [.Tuple [.Name x px, .Name y py] kt pt] (.Tuple [a, b] k2 pt2) pos) (cPar i j fs) := by
  refine ⟨PS_weak (ps_par hc hN hi hj hij hx hy ha.pa hw hs) ?_⟩
  rintro D σ H ⟨W, ι, δ, st, o, δ', st', R, e, q⟩
  obtain ⟨p, h1, e⟩ := Option.bind_eq_some_iff.mp e
  refine ⟨W, ι, δ, st, p.1, p.2, R, h1, fun vs H1 ι1 P1 R1 r1 => ?_⟩
  split at e
  · rename_i s u ep
    cases e
    rw [ep] at r1
    obtain ⟨v, w, rfl, rv, rw'⟩ := sv2 r1
    exact ⟨v, w, rfl, q _ H1 ι1 P1 ((R1.set i rv).set j rw')⟩
  · cases e
end

/-! ### leaving a block: what was made in it is given up -/
def frzS (m : Nat) (st : Store) : SV → Option SV
  | .d x => some (.d x)
  | .r n => if n < m then some (.r n) else (toD st (.r n)).map .d
def frzE (m : Nat) (st : Store) : Env → Option Env
  | [] => some []
  | none :: r => (frzE m st r).map (none :: ·)
  | some s :: r => (frzS m st s).bind fun s' => (frzE m st r).map (some s' :: ·)
def frzO (m : Nat) (st : Store) : Out → Option Out
  | .rt s => (frzS m st s).map .rt
  | o => some o
/-- the store is as long as before -/
def cScoped (g : FS) : FS := fun δ st => (g δ st).bind fun p => (frzO st.length p.2.2 p.1).bind fun o => (frzE st.length p.2.2 p.2.1).bind fun δ' => if (p.2.2.take st.length).all (moB st.length) = true then some (o, δ', p.2.2.take st.length) else none
section
variable {K : PySem.W.Frag} {W : Addr → Prop} {H H' : Hp} {ι ι' : List Addr} {st st' : Store} {σ' : L2.St} {δ' : Env}
theorem le_less (hp : ι <+: ι') : Le (fz H' W ι') (fz H' W ι) := fun a o h => by
  obtain ⟨h1, h2, h3⟩ := fz_of h
  refine ⟨o, ?_, rfl⟩
  rw [fz_at h1 fun z => h2 (hp.subset z)]
  exact h3
theorem take_pre (hp : ι <+: ι') : ι'.take ι.length = ι := by
  obtain ⟨t, rfl⟩ := hp
  simp
theorem frz_ok (S : Sto K W H' ι' st') (hp : ι <+: ι') {v : V} {s s' : SV} (r : SvR K (fz H' W ι') ι' v s) (e : frzS ι.length st' s = some s') : SvR K (fz H' W ι) ι v s' := by
  cases s with
  | d x =>
    cases e
    exact Dr.mono (le_less hp) r
  | r n =>
    have e : (if n < ι.length then some (SV.r n) else (toD st' (.r n)).map .d) = some s' := e
    split at e
    · rename_i hn
      cases e
      obtain ⟨a, h1, h2⟩ := r
      obtain ⟨t, rfl⟩ := hp
      rw [List.getElem?_append_left hn] at h1
      exact ⟨a, h1, h2⟩
    · rename_i hn
      obtain ⟨d, h1, h2⟩ := Option.map_eq_some_iff.mp e
      subst h2
      have vis : ∀ {a : Addr}, ι'[n]? = some a → ¬ W a ∧ a ∉ ι := fun {a} ha => by
        refine ⟨S.wd a (List.mem_of_getElem? ha), fun hm => ?_⟩
        obtain ⟨j, hj, ej⟩ := List.getElem_of_mem hm
        have e1 : ι'[j]? = some a := pre_get hp (by rw [List.getElem?_eq_getElem hj, ej])
        obtain ⟨b1, b2⟩ := List.getElem?_eq_some_iff.mp e1
        obtain ⟨c1, c2⟩ := List.getElem?_eq_some_iff.mp ha
        have := (List.getElem_inj (h₀ := b1) (h₁ := c1) S.nd).mp (b2.trans c2.symm)
        omega
      unfold toD at h1
      dsimp only at h1
      split at h1
      · rename_i ss e2
        obtain ⟨ds, g1, g2⟩ := Option.map_eq_some_iff.mp h1
        subst g2
        obtain ⟨a, ha, rfl, xs, h3, h4⟩ := S.r r e2
        rw [dataAll_eq g1] at h4
        obtain ⟨w1, w2⟩ := vis ha
        exact Dr.lst (by rw [fz_at w1 w2]; exact h3) (DrAll.mono (le_less hp) (drAll_of h4))
      · rename_i es e2
        obtain ⟨ds, g1, g2⟩ := Option.map_eq_some_iff.mp h1
        subst g2
        obtain ⟨a, ha, rfl, kvs, h3, h4, h5⟩ := S.r r e2
        rw [dataAll_eq g1] at h5
        obtain ⟨w1, w2⟩ := vis ha
        have hl : (es.map (·.1)).length = ds.length := by
          have e1 := congrArg List.length (dataAll_eq g1)
          simpa using e1
        have hz1 : ((es.map (·.1)).zip ds).map (·.1) = es.map (·.1) := List.map_fst_zip (Nat.le_of_eq hl)
        have hz2 : ((es.map (·.1)).zip ds).map (·.2) = ds := List.map_snd_zip (Nat.le_of_eq hl.symm)
        exact Dr.dk (kvs := kvs) (by rw [fz_at w1 w2]; exact h3) rfl (by rw [hz1]; exact h4) (by rw [hz2]; exact DrAll.mono (le_less hp) (drAll_of h5))
      · cases h1
theorem sv_less (hp : ι <+: ι') {v : V} {s : SV} (r : SvR K (fz H' W ι') ι' v s) (b : svB ι.length s = true) : SvR K (fz H' W ι) ι v s := by
  cases s with
  | d x => exact Dr.mono (le_less hp) r
  | r n =>
    obtain ⟨a, h1, h2⟩ := r
    obtain ⟨t, rfl⟩ := hp
    rw [List.getElem?_append_left (of_decide_eq_true b)] at h1
    exact ⟨a, h1, h2⟩
theorem svAll_less (hp : ι <+: ι') : ∀ {vs : List V} {ss : List SV}, SvAll K (fz H' W ι') ι' vs ss → ss.all (svB ι.length) = true → SvAll K (fz H' W ι) ι vs ss
  | _, _, .nil, _ => .nil
  | _, _, .cons r t, e => by
    rw [List.all_cons, Bool.and_eq_true] at e
    exact .cons (sv_less hp r e.1) (svAll_less hp t e.2)
theorem leave_sto (S : Sto K W H' ι' st') (hp : ι <+: ι') (hb : (st'.take ι.length).all (moB ι.length) = true) : Sto K W H' ι (st'.take ι.length) := by
  obtain ⟨t, rfl⟩ := hp
  have hp : ι <+: ι ++ t := ⟨t, rfl⟩
  refine ⟨(List.nodup_append.mp S.nd).1, ?_, fun a h => S.wd a (List.mem_append_left _ h), S.wn, fun n o a h1 h2 => ?_⟩
  · have := S.len
    rw [List.length_append] at this
    rw [List.length_take]
    omega
  · have hn : n < ι.length := (List.getElem?_eq_some_iff.mp h2).1
    rw [List.getElem?_take_of_lt hn] at h1
    have q := S.mo n o a h1 (pre_get hp h2)
    have hm : moB ι.length o = true := List.all_eq_true.mp hb o (List.mem_of_getElem? (l := st'.take ι.length) (by rw [List.getElem?_take_of_lt hn]; exact h1))
    unfold MoR at q ⊢
    split at q
    · obtain ⟨xs, h, r⟩ := q
      exact ⟨xs, h, svAll_less hp r hm⟩
    · obtain ⟨xs, h, e, r⟩ := q
      refine ⟨xs, h, e, svAll_less hp r ?_⟩
      rw [List.all_map]
      exact hm
    · obtain ⟨dx, xs, h, e, r⟩ := q
      refine ⟨dx, xs, h, e, svAll_less hp r ?_⟩
      rw [List.all_map]
      exact hm
theorem frzE_get {m : Nat} : ∀ {δ δ' : Env}, frzE m st' δ = some δ' → δ'.length = δ.length ∧ ∀ (i : Nat) (s' : SV), δ'[i]? = some (some s') → ∃ s, δ[i]? = some (some s) ∧ frzS m st' s = some s'
  | [], δ', e => by cases e; exact ⟨rfl, fun i s' h => by simp at h⟩
  | none :: r, δ', e => by
    obtain ⟨δ2, e1, e2⟩ := Option.map_eq_some_iff.mp e
    subst e2
    obtain ⟨h1, h2⟩ := frzE_get e1
    refine ⟨by simp [h1], fun i s' h => ?_⟩
    cases i with
    | zero => simp at h
    | succ i => simpa using h2 i s' (by simpa using h)
  | some s :: r, δ', e => by
    obtain ⟨s1, e0, e⟩ := Option.bind_eq_some_iff.mp e
    obtain ⟨δ2, e1, e2⟩ := Option.map_eq_some_iff.mp e
    subst e2
    obtain ⟨h1, h2⟩ := frzE_get e1
    refine ⟨by simp [h1], fun i s' h => ?_⟩
    cases i with
    | zero => simp at h; subst h; exact ⟨s, rfl, e0⟩
    | succ i => simpa using h2 i s' (by simpa using h)
theorem Ps.less (p : Ps H ι H' ι') : Ps H ι H' ι := ⟨p.keep, p.dom, fun _ h => .inl h, List.prefix_refl _⟩
end
theorem dss_scoped {X : Cx} {b : List Stmt} {g : FS} (h : DSs X b g) : DSs X b (cScoped g) := by
  refine ⟨PSs_weak h.ps ?_⟩
  rintro D σ H ⟨W, ι, δ, st, o, δ', st', R, e, q⟩
  obtain ⟨p, e1, e⟩ := Option.bind_eq_some_iff.mp e
  obtain ⟨o1, e2, e⟩ := Option.bind_eq_some_iff.mp e
  obtain ⟨δ1, e3, e⟩ := Option.bind_eq_some_iff.mp e
  obtain ⟨po, pd, ps⟩ := p
  refine ⟨W, ι, δ, st, po, pd, ps, R, e1, fun σ' H' ι' P1 R1 => ?_⟩
  split at e
  · rename_i hb
    cases e
    rw [← R.sto.len] at hb e2 e3 q
    have S' := leave_sto R1.sto P1.pre hb
    obtain ⟨hl, hs⟩ := frzE_get e3
    have R' : Rl X.K W σ' H' ι δ' (ps.take ι.length) := ⟨S', hl.trans R1.len, fun i s h => by
      obtain ⟨s0, h1, h2⟩ := hs i s h
      obtain ⟨v, h3, h4⟩ := R1.sl i s0 h1
      exact ⟨v, h3, frz_ok R1.sto P1.pre h4 h2⟩⟩
    have q' := q σ' H' ι P1.less R'
    cases po with
    | rt s =>
      obtain ⟨s1, h1, h2⟩ := Option.map_eq_some_iff.mp e2
      subst h2
      exact fun v r => q' v (frz_ok R1.sto P1.pre r h1)
    | nx => cases e2; exact q'
    | bk => cases e2; exact q'
    | ct => cases e2; exact q'
  · cases e

/-! ### a def -/
def runF (n : Nat) (g : FS) (ss : List SV) (st : Store) : Option (SV × Store) :=
  (cScoped g (ss.map some ++ List.replicate (n - ss.length) none) st).bind fun p => match p.1 with
    | .nx => some (.d .non, p.2.2)
    | .rt s => some (s, p.2.2)
    | _ => none
section
variable {P : Program} {w : World} {K : PySem.W.Frag} {mg : Str → Option Value} {base : Heap}
theorem fn_d {x qual : Str} {st : Stmt} {f : Addr} {fd : FuncData} {N ps : List Str} {k : Nat} {g : FS} (F : Fun K x qual st f fd) (S : FnScope N ps (defScope st))
    (hbody : ∀ (cdv : Value) (A : Around) (outer : List PySem.Env) (s : Shared) (H : Hp) (E : XK), Room k (A.deeper (PyProof.Rows.envOfC qual (defScope st) s.heap.objs.size f cdv)) →
      DSs (cxOf CX0 P w K mg base N qual (defScope st) f cdv A outer s H E).nox (defBody st) g) : FnD P w K mg base (k + 1) f fd ps (runF N.length g) := by
  refine F.ok S (fun vs H Q E h => h.1) fun cdv A outer s H vs Q E hr h => ⟨_, (dss_scoped (hbody cdv A outer s H E hr)).ps, ?_⟩
  obtain ⟨hn, W, ι, st, ss, z, st', So, r, e, q⟩ := h
  obtain ⟨p, e1, e⟩ := Option.bind_eq_some_iff.mp e
  obtain ⟨o, δ', st2⟩ := p
  have hl : vs.length = ss.length := Paired.length r
  refine ⟨W, ι, ss.map some ++ List.replicate (N.length - ss.length) none, st, o, δ', st2, ⟨So, by simp [L2.start, hl], fun i s h => ?_⟩, e1, fun σ' H' ι' P1 R1 => ?_⟩
  · by_cases hi : i < ss.length
    · rw [List.getElem?_append_left (by simpa using hi)] at h
      simp at h
      obtain ⟨v, h1, h2⟩ := paired_get r h
      refine ⟨v, ?_, h2⟩
      unfold L2.start
      rw [List.getElem?_append_left (by simp; omega)]
      simp [h1]
    · rw [List.getElem?_append_right (by simp; omega)] at h
      obtain ⟨h1, h2⟩ := List.getElem?_eq_some_iff.mp h
      simp at h2
  · have hι : ι'.length = ι.length := by
      have e2 := R1.sto.len
      have e3 : st2.length = st.length := by
        obtain ⟨p, e4, e5⟩ := Option.bind_eq_some_iff.mp e1
        obtain ⟨o1, e6, e5⟩ := Option.bind_eq_some_iff.mp e5
        obtain ⟨δ1, e7, e5⟩ := Option.bind_eq_some_iff.mp e5
        split at e5
        · cases e5
          have := P1.pre.length_le
          rw [List.length_take] at e2 ⊢
          have := So.len
          omega
        · cases e5
      rw [e2, e3, So.len]
    obtain rfl : ι' = ι := (P1.pre.eq_of_length hι.symm).symm
    cases o with
    | nx => cases e; exact q _ H' P1 R1.sto Dr.non
    | rt s => cases e; exact fun v rv => q v H' P1 R1.sto rv
    | bk => cases e
    | ct => cases e
end
end DL

set_option maxHeartbeats 1000000
/-! DH: what is walked; for, while, comprehensions. -/
namespace DL
open PySem PySem.Spec L2

/-- what a loop walks: the items, and what must stay of the store meanwhile -/
abbrev FI := Env → Store → Option ((Store → Option Unit) × List SV × Store)
def IOk (K : PySem.W.Frag) (W : Addr → Prop) (H' : Hp) (ι' : List Addr) (chk : Store → Option Unit) (ss : List SV) (J : It) : Prop :=
  ∀ H2 ι2 st2 U (i : Nat), Ps H' ι' H2 ι2 → Le (fz H' W ι') (fz H2 U ι2) → Sto K U H2 ι2 st2 → chk st2 = some () →
    (ss.length ≤ i → J.stop i H2) ∧ ∀ s, ss[i]? = some s → J.go i H2 ∧ ∀ x H3, J.yld i H2 x H3 → Same H2 H3 ∧ SvR K (fz H3 U ι2) ι2 x s
theorem SvR.le' {K : PySem.W.Frag} {F F' : Hp} {ι ι' : List Addr} {v : V} {s : SV} (h : SvR K F ι v s) (l : Le F F') (p : ι <+: ι') : SvR K F' ι' v s := by
  cases s with
  | d x => exact Dr.mono l h
  | r n => obtain ⟨a, h1, h2⟩ := h; exact ⟨a, pre_get p h1, h2⟩
theorem SvAll.le' {K : PySem.W.Frag} {F F' : Hp} {ι ι' : List Addr} {vs : List V} {ss : List SV} (h : SvAll K F ι vs ss) (l : Le F F') (p : ι <+: ι') : SvAll K F' ι' vs ss := L2.Paired.mapP h fun _ _ r => r.le' l p
def tI (K : PySem.W.Frag) (f : FI) : TI := fun σ H R => ∃ W ι δ st chk ss st', Rl K W σ H ι δ st ∧ f δ st = some (chk, ss, st') ∧
  ∀ J H' ι', Ps H ι H' ι' → Rl K W σ H' ι' δ st' → IOk K W H' ι' chk ss J → R J H'
structure DI (X : Cx) (tg iter : Expr) (f : FI) : Prop where
  pi : PI X tg iter (tI X.K f)
theorem PI_weak {X : Cx} {tg e : Expr} {t t' : TI} (h : PI X tg e t) (w : ∀ σ H R, t' σ H R → t σ H R) : PI X tg e t' := ⟨fun pins s σ H R I q => h.run pins s σ H R I (w σ H R q)⟩
def cYes : Store → Option Unit := fun _ => some ()
open Classical in
/-- the n-th stays as it is -/
noncomputable def cStay (n : Nat) (o : Option MO) : Store → Option Unit := fun st => if st[n]? = o then some () else none
noncomputable def cSeqI (f : FE) : FI := fun δ st => (f δ st).bind fun p => (items p.2 p.1).bind fun ss => some (match p.1 with | .r n => cStay n p.2[n]? | _ => cYes, ss, p.2)
def cStrI (f : FE) : FI := fun δ st => (f δ st).bind fun p => match p.1 with
  | .d (.str s) => some (cYes, s.map fun c => .d (.str [c]), p.2)
  | _ => none
def rngL (lo : Int) (n : Nat) : List SV := (List.range n).map fun (i : Nat) => .d (.int (lo + i))
def inR (i : Int) : Bool := decide (-(2 ^ 60) < i ∧ i < 2 ^ 60)
def cRng1 (f : FE) : FI := fun δ st => (f δ st).bind fun p => match p.1 with
  | .d (.int j) => if inR j = true then some (cYes, rngL 0 j.toNat, p.2) else none
  | _ => none
def cRng2 (f g : FE) : FI := fun δ st => (f δ st).bind fun p => (g δ p.2).bind fun q => match p.1, q.1 with
  | .d (.int i), .d (.int j) => if inR i = true ∧ inR j = true then some (cYes, rngL i (j - i).toNat, q.2) else none
  | _, _ => none
section
variable {X : Cx} {tg e : Expr} {f : FE}
theorem iok_lst {K : PySem.W.Frag} {W : Addr → Prop} {H' : Hp} {ι' : List Addr} {chk : Store → Option Unit} {ss : List SV} {a : Addr}
    (h : ∀ H2 ι2 st2 U, Ps H' ι' H2 ι2 → Le (fz H' W ι') (fz H2 U ι2) → Sto K U H2 ι2 st2 → chk st2 = some () → ∃ xs, SqL K H2 a xs ∧ SvAll K (fz H2 U ι2) ι2 xs ss) : IOk K W H' ι' chk ss (Itl K a) := by
  intro H2 ι2 st2 U i P L S c
  obtain ⟨xs, h1, h2⟩ := h H2 ι2 st2 U P L S c
  have hl : xs.length = ss.length := Paired.length h2
  refine ⟨fun hi => ⟨xs, h1, by omega⟩, fun s hs => ?_⟩
  obtain ⟨x, h3, h4⟩ := paired_get h2 hs
  exact ⟨⟨xs, x, h1, h3⟩, fun y H3 ⟨e, hy⟩ => by
    subst e
    have e2 := hy xs h1
    rw [h3] at e2
    cases e2
    exact ⟨Same.refl _, h4⟩⟩
theorem iok_tup {K : PySem.W.Frag} {W : Addr → Prop} {H' : Hp} {ι' : List Addr} {ss : List SV} {a : Addr} {xs : List V} (g : SqT K (fz H' W ι') a xs) (k : SvAll K (fz H' W ι') ι' xs ss) : IOk K W H' ι' cYes ss (Itt K a) := by
  intro H2 ι2 st2 U i P L S c
  have h1 : SqT K H2 a xs := le_fz.seqT (L.seqT g)
  have h2 := SvAll.le' k L P.pre
  have hl : xs.length = ss.length := Paired.length h2
  refine ⟨fun hi => ⟨xs, h1, by omega⟩, fun s hs => ?_⟩
  obtain ⟨x, h3, h4⟩ := paired_get h2 hs
  exact ⟨⟨xs, x, h1, h3⟩, fun y H3 ⟨e, hy⟩ => by
    subst e
    have e2 := hy xs h1
    rw [h3] at e2
    cases e2
    exact ⟨Same.refl _, h4⟩⟩
theorem di_seq (he : DE X e f) : DI X tg e (cSeqI f) := by
  refine ⟨⟨fun pins s σ H R I h => ?_⟩⟩
  obtain ⟨W, ι, δ, st, chk, ss, st', Rr, h, q⟩ := h
  obtain ⟨p, h1, h⟩ := Option.bind_eq_some_iff.mp h
  obtain ⟨ss1, h2, h⟩ := Option.bind_eq_some_iff.mp h
  obtain ⟨p1, p2⟩ := p
  cases p1 with
  | r n =>
    cases h
    refine (pi_list (tg := tg) he.pe).run pins s σ H R I ⟨W, ι, δ, st, _, _, Rr, h1, fun v H1 ι1 P1 R1 r1 => ?_⟩
    obtain ⟨a, xs, rfl, hq, k⟩ := items_ok R1.sto r1 h2
    have e2 : p2[n]? = some (.lst ss) := by
      unfold items at h2
      dsimp only at h2
      split at h2
      · rename_i ss e; cases h2; exact e
      · cases h2
    obtain ⟨a', ha, ea, xs', hL, k'⟩ := R1.sto.r r1 e2
    cases ea
    refine ⟨a, rfl, ⟨xs', .of hL⟩, q _ H1 ι1 P1 R1 (iok_lst fun H2 ι2 st2 U P L S c => ?_)⟩
    unfold cStay at c
    dsimp only at c
    split at c
    · rename_i e3
      rw [e2] at e3
      obtain ⟨xs2, h3, h4⟩ := S.mo n _ a e3 (pre_get P.pre ha)
      exact ⟨xs2, .of h3, h4⟩
    · cases c
  | d x =>
    cases x with
    | tup ds =>
      cases h
      refine (pi_tup (tg := tg) he.pe).run pins s σ H R I ⟨W, ι, δ, st, _, _, Rr, h1, fun v H1 ι1 P1 R1 r1 => ?_⟩
      cases h2
      cases (show Dr X.K (fz H1 W ι1) v (.tup ds) from r1) with
      | tup g k => exact ⟨_, rfl, ⟨_, le_fz.seqT g⟩, q _ H1 ι1 P1 R1 (iok_tup g (of_drAll k))⟩
    | lst ds =>
      cases h
      refine (pi_list (tg := tg) he.pe).run pins s σ H R I ⟨W, ι, δ, st, _, _, Rr, h1, fun v H1 ι1 P1 R1 r1 => ?_⟩
      cases h2
      cases (show Dr X.K (fz H1 W ι1) v (.lst ds) from r1) with
      | lst g k =>
        exact ⟨_, rfl, ⟨_, .of (le_fz.lst g)⟩, q _ H1 ι1 P1 R1 (iok_lst fun H2 ι2 st2 U P L S c => ⟨_, .of (le_fz.lst (L.lst g)), SvAll.le' (of_drAll k) L P.pre⟩)⟩
    | _ => cases h2
theorem di_str (he : DE X e f) : DI X tg e (cStrI f) := by
  refine ⟨PI_weak (pi_str he.pe) ?_⟩
  rintro σ H R ⟨W, ι, δ, st, chk, ss, st', Rr, h, q⟩
  obtain ⟨p, h1, h⟩ := Option.bind_eq_some_iff.mp h
  refine ⟨W, ι, δ, st, p.1, p.2, Rr, h1, fun v H1 ι1 P1 R1 r1 => ?_⟩
  split at h
  · rename_i z ez
    cases h
    rw [ez] at r1
    obtain ⟨rfl, k⟩ := dr_str r1
    refine ⟨_, rfl, q _ H1 ι1 P1 R1 fun H2 ι2 st2 U i P L S c => ?_⟩
    refine ⟨fun hi => by show z.toArray.size ≤ i; simpa using hi, fun s hs => ?_⟩
    simp only [List.getElem?_map, Option.map_eq_some_iff] at hs
    obtain ⟨c, hc, rfl⟩ := hs
    refine ⟨?_, fun x H3 ⟨e, c', hc', ex⟩ => ?_⟩
    · show i < z.toArray.size
      have := (List.getElem?_eq_some_iff.mp hc).1
      simpa using this
    · subst e ex
      have e3 : c' = c := by
        have : z[i]? = some c' := by simpa using hc'
        rw [hc] at this
        exact (Option.some.inj this).symm
      subst e3
      exact ⟨Same.refl _, Dr.str [c'] (sOk_of (by simp; rw [sizeLine_eq]; decide) (by simpa using sOk_all k c' (List.mem_of_getElem? hc)))⟩
  · cases h
theorem iok_rng {K : PySem.W.Frag} {W : Addr → Prop} {H' : Hp} {ι' : List Addr} {lo : Int} {n : Nat} : IOk K W H' ι' cYes (rngL lo n) (Itr lo n) := by
  intro H2 ι2 st2 U i P L S c
  refine ⟨fun hi => by show n ≤ i; simpa [rngL] using hi, fun s hs => ?_⟩
  unfold rngL at hs
  rw [List.getElem?_map] at hs
  obtain ⟨j, h1, h2⟩ := Option.map_eq_some_iff.mp hs
  obtain ⟨h3, h4⟩ := List.getElem?_eq_some_iff.mp h1
  simp at h3 h4
  subst h4 h2
  exact ⟨h3, fun x H3 ⟨e, ex⟩ => by subst e ex; exact ⟨Same.refl _, svi _⟩⟩
theorem inR_ok {i : Int} (h : inR i = true) : -(2 ^ 62) ≤ i ∧ i < 2 ^ 62 := by
  have := of_decide_eq_true h
  omega
theorem di_rng1 {p pos : Pos} (hg : Gl X "range") (hm : X.mg "range" = none) (ha : DE X e f) (hs : starEach [e] X.env = [(false, eval e X.env)] := by rfl) : DI X tg (.Call (.Name "range" p) [e] [] pos) (cRng1 f) := by
  refine ⟨PI_weak (pi_range1 hg hm (da_cons ha da_nil hs).pa hs) ?_⟩
  rintro σ H R ⟨W, ι, δ, st, chk, ss, st', Rr, h, q⟩
  obtain ⟨p, h1, h⟩ := Option.bind_eq_some_iff.mp h
  obtain ⟨p1, p2⟩ := p
  have e1 : cCons f cNil δ st = some ([p1], p2) := by
    unfold cCons
    rw [h1]
    rfl
  refine ⟨W, ι, δ, st, _, _, Rr, e1, fun vs H1 ι1 P1 R1 r1 => ?_⟩
  obtain ⟨v, rfl, rv⟩ := sv1 r1
  clear r1
  dsimp only at h
  split at h
  · rename_i j
    split at h
    · rename_i hj
      cases h
      obtain ⟨b1, b2⟩ := inR_ok hj
      exact ⟨j, by rw [dr_int rv], b1, b2, q _ H1 ι1 P1 R1 iok_rng⟩
    · cases h
  · cases h
theorem di_rng2 {e2 : Expr} {g : FE} {p pos : Pos} (hg : Gl X "range") (hm : X.mg "range" = none) (ha : DE X e f) (hb : DE X e2 g) (hs : starEach [e, e2] X.env = [(false, eval e X.env), (false, eval e2 X.env)] := by rfl) (hs2 : starEach [e2] X.env = [(false, eval e2 X.env)] := by rfl) :
    DI X tg (.Call (.Name "range" p) [e, e2] [] pos) (cRng2 f g) := by
  refine ⟨PI_weak (pi_range2 hg hm (da_cons ha (da_cons hb da_nil hs2) (by rw [hs, hs2])).pa hs hs2) ?_⟩
  rintro σ H R ⟨W, ι, δ, st, chk, ss, st', Rr, h, q⟩
  obtain ⟨p, h1, h⟩ := Option.bind_eq_some_iff.mp h
  obtain ⟨p', h2, h⟩ := Option.bind_eq_some_iff.mp h
  obtain ⟨p1, p2⟩ := p
  obtain ⟨q1, q2⟩ := p'
  have e1 : cCons f (cCons g cNil) δ st = some ([p1, q1], q2) := by
    simp [cCons, h1, h2, cNil]
  refine ⟨W, ι, δ, st, _, _, Rr, e1, fun vs H1 ι1 P1 R1 r1 => ?_⟩
  obtain ⟨v, w, rfl, rv, rw'⟩ := sv2 r1
  clear r1 h2
  dsimp only at h
  split at h
  · rename_i i j
    split at h
    · rename_i hj
      cases h
      obtain ⟨b1, b2⟩ := inR_ok hj.1
      obtain ⟨b3, b4⟩ := inR_ok hj.2
      exact ⟨_, _, by rw [dr_int rv, dr_int rw'], ⟨b1, b2, b3, b4⟩, q _ H1 ι1 P1 R1 iok_rng⟩
    · cases h
  · cases h
end

/-! ### for -/
def forL (chk : Store → Option Unit) (tg : FG) (body : FS) : List SV → Env → Store → Option (Out × Env × Store)
  | [], δ, st => (chk st).bind fun _ => some (.nx, δ, st)
  | s :: r, δ, st => (chk st).bind fun _ => (tg st s δ).bind fun δ1 => (body δ1 st).bind fun p => match p.1 with
    | .nx => forL chk tg body r p.2.1 p.2.2
    | .ct => forL chk tg body r p.2.1 p.2.2
    | .bk => some (.nx, p.2.1, p.2.2)
    | .rt v => some (.rt v, p.2.1, p.2.2)
def cFor (it : FI) (tg : FG) (body : FS) : FS := fun δ st => (it δ st).bind fun p => forL p.1 tg body p.2.1 δ p.2.2
section
variable {X : Cx} {tg iter : Expr} {f : FI} {ns : List Nat} {g : FG} {body : List Stmt} {b : FS} {pos : Pos}
theorem ds_for (hp : PassesOwn (model X.prog X.w) X.A X.env X.xe) (hc : X.calm = true) (hi : DI X tg iter f) (hg : DG X tg ns g) (hb : DSs X body b)
    (hs : ∀ x, foldedSetIterable iter X.env x = pure x := by intro _; rfl) : DS X (.For tg iter body [] pos) (cFor f g b) := by
  refine ⟨PS_weak (ps_for hp hc hi.pi hg.pg hb.ps hs) ?_⟩
  rintro D σ H ⟨W, ι, δ, st, o, δ', st', R, e, q⟩
  obtain ⟨p, e1, e⟩ := Option.bind_eq_some_iff.mp e
  obtain ⟨chk, ss, st1⟩ := p
  dsimp only at e
  refine ⟨W, ι, δ, st, chk, ss, st1, R, e1, fun J H1 ι1 P1 R1 ok => ?_⟩
  refine ⟨fun i m σ2 H2 => m = ss.length - i ∧ i ≤ ss.length ∧ ∃ ι2 δ2 st2, Ps H1 ι1 H2 ι2 ∧ Rl X.K W σ2 H2 ι2 δ2 st2 ∧ forL chk g b (ss.drop i) δ2 st2 = some (o, δ', st'),
    ⟨_, rfl, Nat.zero_le _, ι1, δ, st1, Ps.refl _ _, R1, e⟩, ?_⟩
  rintro i m σ2 H2 ⟨rfl, hi, ι2, δ2, st2, P2, R2, e2⟩
  by_cases hlt : i < ss.length
  · rw [List.drop_eq_getElem_cons hlt] at e2
    obtain ⟨u, c1, e2⟩ := Option.bind_eq_some_iff.mp e2
    obtain ⟨δ3, c2, e2⟩ := Option.bind_eq_some_iff.mp e2
    obtain ⟨p, c3, e2⟩ := Option.bind_eq_some_iff.mp e2
    obtain ⟨o4, δ4, st4⟩ := p
    obtain ⟨go, yld⟩ := (ok H2 ι2 st2 W i P2 P2.le R2.sto c1).2 _ (List.getElem?_eq_getElem hlt)
    refine .inr ⟨go, fun σ4 H4 => ∃ ι4 δ4 st4, Ps H1 ι1 H4 ι4 ∧ Rl X.K W σ4 H4 ι4 δ4 st4 ∧ forL chk g b (ss.drop (i + 1)) δ4 st4 = some (o, δ', st'), fun σ4 H4 ⟨ι4, δ4, st4, P4, R4, e4⟩ => ⟨_, Nat.sub_lt_sub_left hlt (Nat.lt_succ_self i), rfl, hlt, ι4, δ4, st4, P4, R4, e4⟩, fun x H3 y => ?_⟩
    obtain ⟨S3, rx⟩ := yld x H3 y
    have R3 := R2.same S3
    have P3 := P2.trans (Ps.same S3)
    refine ⟨W, ι2, δ2, st2, ss[i], δ3, R3, rx, c2, fun σ5 _ R5 => ⟨W, ι2, δ3, st2, o4, δ4, st4, R5, c3, fun σ6 H6 ι6 P6 R6 => ?_⟩⟩
    have P7 := P3.trans P6
    cases o4 with
    | nx => exact ⟨ι6, δ4, st4, P7, R6, e2⟩
    | ct => exact ⟨ι6, δ4, st4, P7, R6, e2⟩
    | bk => cases e2; exact q σ6 H6 ι6 (P1.trans P7) R6
    | rt s => cases e2; exact q σ6 H6 ι6 (P1.trans P7) R6
  · have hi' : i = ss.length := by omega
    subst hi'
    rw [List.drop_length] at e2
    obtain ⟨u, c1, e2⟩ := Option.bind_eq_some_iff.mp e2
    have hs := (ok H2 ι2 st2 W _ P2 P2.le R2.sto c1).1 (Nat.le_refl _)
    cases e2
    exact .inl ⟨hs, q σ2 H2 ι2 (P1.trans P2) R2⟩
end

/-! ### while -/
def whileN (t : FT) (body : FS) : Nat → Env → Store → Option (Out × Env × Store)
  | 0, _, _ => none
  | n + 1, δ, st => (t δ st).bind fun p => if p.1 = true then (body δ p.2).bind fun q => match q.1 with
      | .nx => whileN t body n q.2.1 q.2.2
      | .ct => whileN t body n q.2.1 q.2.2
      | .bk => some (.nx, q.2.1, q.2.2)
      | .rt v => some (.rt v, q.2.1, q.2.2)
    else some (.nx, δ, p.2)
theorem whileN_up {t : FT} {body : FS} : ∀ {n : Nat} {δ : Env} {st : Store} {r}, whileN t body n δ st = some r → whileN t body (n + 1) δ st = some r
  | 0, _, _, _, h => by cases h
  | n + 1, δ, st, r, h => by
    unfold whileN at h ⊢
    obtain ⟨p, h1, h⟩ := Option.bind_eq_some_iff.mp h
    rw [h1]
    show (if p.1 = true then _ else _) = _
    by_cases c : p.1 = true
    · rw [if_pos c] at h ⊢
      obtain ⟨q, h2, h⟩ := Option.bind_eq_some_iff.mp h
      rw [h2]
      obtain ⟨o, δ2, st2⟩ := q
      cases o with
      | nx => exact whileN_up h
      | ct => exact whileN_up h
      | bk => exact h
      | rt v => exact h
    · rw [if_neg c] at h ⊢
      exact h
theorem whileN_le {t : FT} {body : FS} {n m : Nat} {δ : Env} {st : Store} {r} (h : whileN t body n δ st = some r) (hm : n ≤ m) : whileN t body m δ st = some r := by
  obtain ⟨k, rfl⟩ := Nat.le.dest hm
  clear hm
  induction k with
  | zero => exact h
  | succ k ih => exact whileN_up ih
open Classical in
noncomputable def cWhile (t : FT) (body : FS) : FS := fun δ st => if h : ∃ n, (whileN t body n δ st).isSome = true then whileN t body (Classical.choose h) δ st else none
theorem cWhile_of {t : FT} {body : FS} {n : Nat} {δ : Env} {st : Store} {r} (h : whileN t body n δ st = some r) : cWhile t body δ st = some r := by
  have hx : ∃ n, (whileN t body n δ st).isSome = true := ⟨n, by rw [h]; rfl⟩
  unfold cWhile
  rw [dif_pos hx]
  have hc := Classical.choose_spec hx
  cases e : whileN t body (Classical.choose hx) δ st with
  | none => rw [e] at hc; cases hc
  | some r' =>
    have h1 := whileN_le h (Nat.le_max_left n (Classical.choose hx))
    have h2 := whileN_le e (Nat.le_max_right n (Classical.choose hx))
    rw [← h1, h2]
theorem of_cWhile {t : FT} {body : FS} {δ : Env} {st : Store} {r} (h : cWhile t body δ st = some r) : ∃ n, whileN t body n δ st = some r := by
  unfold cWhile at h
  split at h
  · exact ⟨_, h⟩
  · cases h
theorem ds_while {X : Cx} {c : Expr} {body : List Stmt} {t : FT} {b : FS} {pos : Pos} (hp : PassesOwn (model X.prog X.w) X.A X.env X.xe) (hc : DT X c t) (hb : DSs X body b) : DS X (.While c body [] pos) (cWhile t b) := by
  refine ⟨PS_weak (ps_while hp hc.pt hb.ps) ?_⟩
  rintro D σ H ⟨W, ι, δ, st, o, δ', st', R, e, q⟩
  obtain ⟨n, e⟩ := of_cWhile e
  refine ⟨fun m σ2 H2 => ∃ ι2 δ2 st2, Ps H ι H2 ι2 ∧ Rl X.K W σ2 H2 ι2 δ2 st2 ∧ whileN t b m δ2 st2 = some (o, δ', st'), ⟨n, ι, δ, st, Ps.refl _ _, R, e⟩, ?_⟩
  rintro m σ2 H2 ⟨ι2, δ2, st2, P2, R2, e2⟩
  cases m with
  | zero => cases e2
  | succ m =>
    unfold whileN at e2
    obtain ⟨p, c1, e2⟩ := Option.bind_eq_some_iff.mp e2
    refine ⟨W, ι2, δ2, st2, p.1, p.2, R2, c1, fun H3 ι3 P3 R3 => ?_⟩
    cases c : p.1 with
    | true =>
      rw [if_pos c] at e2
      obtain ⟨u, c2, e2⟩ := Option.bind_eq_some_iff.mp e2
      obtain ⟨o4, δ4, st4⟩ := u
      refine (if_pos rfl).mpr ⟨fun σ4 H4 => ∃ ι4 δ4 st4, Ps H ι H4 ι4 ∧ Rl X.K W σ4 H4 ι4 δ4 st4 ∧ whileN t b m δ4 st4 = some (o, δ', st'), fun σ4 H4 h4 => ⟨m, Nat.lt_succ_self m, h4⟩, W, ι3, δ2, p.2, o4, δ4, st4, R3, c2, fun σ6 H6 ι6 P6 R6 => ?_⟩
      have P7 := (P2.trans P3).trans P6
      cases o4 with
      | nx => exact ⟨ι6, δ4, st4, P7, R6, e2⟩
      | ct => exact ⟨ι6, δ4, st4, P7, R6, e2⟩
      | bk => cases e2; exact q σ6 H6 ι6 P7 R6
      | rt s => cases e2; exact q σ6 H6 ι6 P7 R6
    | false =>
      rw [if_neg (by rw [c]; exact Bool.false_ne_true)] at e2
      cases e2
      exact (if_neg Bool.false_ne_true).mpr (q σ2 H3 ι3 (P2.trans P3) R3)
end DL

set_option maxHeartbeats 1000000
/-! DK: list comprehensions. -/
namespace DL
open PySem PySem.Spec L2

structure DTs (X : Cx) (ifs : List Expr) (t : FT) : Prop where
  pts : PTs X ifs (tT X.K t)
def cTt : FT := fun _ st => some (true, st)
section
variable {X : Cx} {c : Expr} {t : FT}
theorem dts_nil : DTs X [] cTt := ⟨⟨fun pins s σ H Q I h => pts_nil.run pins s σ H Q I (by
  obtain ⟨W, ι, δ, st, b, st', R, e, q⟩ := h
  cases e
  exact q H ι (Ps.refl _ _) R)⟩⟩
theorem dts_one (h : DT X c t) : DTs X [c] t := ⟨pts_one h.pt⟩
end
def wipeE (δ : Env) : List Nat → Env
  | [] => δ
  | v :: vs => (wipeE δ vs).set v none
theorem wipe_at (σ : L2.St) (i : Nat) : ∀ vs : List Nat, (wipe σ vs)[i]? = if i ∈ vs ∧ i < σ.length then some none else σ[i]?
  | [] => by simp [wipe]
  | v :: vs => by
    unfold wipe
    by_cases e : v = i
    · subst e
      by_cases hv : v < σ.length
      · rw [List.getElem?_set_self (by rw [wipe_length]; exact hv), if_pos ⟨List.mem_cons_self, hv⟩]
      · rw [List.getElem?_eq_none (by simp [wipe_length]; omega), if_neg (fun h => hv h.2), List.getElem?_eq_none (by omega)]
    · rw [List.getElem?_set_ne e, wipe_at σ i vs]
      have : (i ∈ v :: vs) ↔ i ∈ vs := by simp [Ne.symm e]
      simp only [this]
theorem wipeE_at (δ : Env) (i : Nat) : ∀ vs : List Nat, (wipeE δ vs)[i]? = if i ∈ vs ∧ i < δ.length then some none else δ[i]?
  | [] => by simp [wipeE]
  | v :: vs => by
    have hl : ∀ us : List Nat, (wipeE δ us).length = δ.length := fun us => by
      induction us with
      | nil => rfl
      | cons u us ih => unfold wipeE; rw [List.length_set, ih]
    unfold wipeE
    by_cases e : v = i
    · subst e
      by_cases hv : v < δ.length
      · rw [List.getElem?_set_self (by rw [hl]; exact hv), if_pos ⟨List.mem_cons_self, hv⟩]
      · rw [List.getElem?_eq_none (by simp [hl]; omega), if_neg (fun h => hv h.2), List.getElem?_eq_none (by omega)]
    · rw [List.getElem?_set_ne e, wipeE_at δ i vs]
      have : (i ∈ v :: vs) ↔ i ∈ vs := by simp [Ne.symm e]
      simp only [this]
theorem wipeE_length (δ : Env) : ∀ vs : List Nat, (wipeE δ vs).length = δ.length
  | [] => rfl
  | v :: vs => by unfold wipeE; rw [List.length_set, wipeE_length δ vs]
theorem Rl.wipe {K : PySem.W.Frag} {W : Addr → Prop} {σ : L2.St} {H : Hp} {ι : List Addr} {δ : Env} {st : Store} (R : Rl K W σ H ι δ st) (vs : List Nat) : Rl K W (L2.wipe σ vs) H ι (wipeE δ vs) st := by
  refine ⟨R.sto, by rw [wipeE_length, wipe_length, R.len], fun i s h => ?_⟩
  rw [wipeE_at] at h
  split at h
  · cases h
  · rename_i c
    obtain ⟨v, h1, h2⟩ := R.sl i s h
    refine ⟨v, ?_, h2⟩
    rw [wipe_at, if_neg (by rw [← R.len]; exact c)]
    exact h1
theorem wipe_off {σ σ' : L2.St} {ns vs : List Nat} (o : Off ns (wipe σ vs) σ') (h : ∀ i ∈ ns, i ∈ vs) : wipe σ' vs = wipe σ vs := by
  apply List.ext_getElem?
  intro i
  have hl : σ'.length = σ.length := by rw [o.1, wipe_length]
  rw [wipe_at, wipe_at, hl]
  by_cases c : i ∈ vs ∧ i < σ.length
  · rw [if_pos c, if_pos c]
  · rw [if_neg c, if_neg c]
    by_cases hi : i < σ.length
    · have hv : i ∉ vs := fun z => c ⟨z, hi⟩
      rw [o.2 i (fun z => hv (h i z)), wipe_at, if_neg c]
    · rw [List.getElem?_eq_none (by omega), List.getElem?_eq_none (by omega)]

def lcL (chk : Store → Option Unit) (tg : FG) (tt : FT) (elt : FE) (δw : Env) : List SV → Store → List D → Option (List D × Store)
  | [], st, acc => (chk st).bind fun _ => some (acc, st)
  | s :: r, st, acc => (chk st).bind fun _ => (tg st s δw).bind fun δ1 => (tt δ1 st).bind fun p =>
    if p.1 = true then (elt δ1 p.2).bind fun q => (asD q.1).bind fun d => if acc.length < sizeLine then lcL chk tg tt elt δw r q.2 (acc ++ [d]) else none
    else lcL chk tg tt elt δw r p.2 acc
def cLc (it : FI) (tg : FG) (tt : FT) (elt : FE) (vs : List Nat) : FE := fun δ st => (it δ st).bind fun p =>
  (lcL p.1 tg tt elt (wipeE δ vs) p.2.1 p.2.2 []).bind fun q => some (.d (.lst q.1), q.2)

section
variable {K : PySem.W.Frag} {W : Addr → Prop} {σ : L2.St} {H H' : Hp} {ι ι' : List Addr} {δ : Env} {st st' : Store} {a : Addr}
abbrev plus (W : Addr → Prop) (a : Addr) : Addr → Prop := fun b => W b ∨ b = a
/-- one more is hidden -/
theorem le_plus : Le (fz H (plus W a) ι) (fz H W ι) := fun b o h => by
  obtain ⟨h1, h2, h3⟩ := fz_of h
  exact ⟨o, by rw [fz_at (fun z => h1 (.inl z)) h2]; exact h3, rfl⟩
theorem le_hide (h0 : H a = none) (hs : Same H H') : Le (fz H W ι) (fz H' (plus W a) ι) := fun b o h => by
  obtain ⟨h1, h2, h3⟩ := fz_of h
  refine ⟨o, ?_, rfl⟩
  rw [fz_at (fun z => z.elim h1 (fun e => by subst e; rw [h0] at h3; cases h3)) h2]
  exact hs _ _ h3
theorem sv_le {F F' : Hp} {v : V} {s : SV} (l : Le F F') (r : SvR K F ι v s) : SvR K F' ι v s := by
  cases s with
  | d x => exact Dr.mono l r
  | r n => exact r
theorem svAll_le {F F' : Hp} {vs : List V} {ss : List SV} (l : Le F F') (r : SvAll K F ι vs ss) : SvAll K F' ι vs ss := L2.Paired.mapP r fun _ _ q => sv_le l q
/-- a is not ours any more: hidden, or shown -/
theorem Sto.swap {W' : Addr → Prop} (S : Sto K W H ι st) (l : Le (fz H W ι) (fz H' W' ι)) (hk : ∀ b ∈ ι, H' b = H b) (hw : ∀ b ∈ ι, ¬ W' b) (hn : ∀ b, W' b → H' b ≠ none) : Sto K W' H' ι st := by
  refine ⟨S.nd, S.len, hw, hn, fun n o b h1 h2 => ?_⟩
  have q := S.mo n o b h1 h2
  have e := hk b (List.mem_of_getElem? h2)
  unfold MoR at q ⊢
  split at q
  · obtain ⟨xs, h, r⟩ := q; exact ⟨xs, by rw [e]; exact h, svAll_le l r⟩
  · obtain ⟨xs, h, e2, r⟩ := q; exact ⟨xs, by rw [e]; exact h, e2, svAll_le l r⟩
  · obtain ⟨dx, xs, h, e2, r⟩ := q; exact ⟨dx, xs, by rw [e]; exact h, e2, svAll_le l r⟩
theorem Rl.swap {W' : Addr → Prop} (R : Rl K W σ H ι δ st) (l : Le (fz H W ι) (fz H' W' ι)) (hk : ∀ b ∈ ι, H' b = H b) (hw : ∀ b ∈ ι, ¬ W' b) (hn : ∀ b, W' b → H' b ≠ none) : Rl K W' σ H' ι δ st :=
  ⟨R.sto.swap l hk hw hn, R.len, fun i s h => let ⟨v, h1, h2⟩ := R.sl i s h; ⟨v, h1, sv_le l h2⟩⟩
/-- the hidden one is written -/
theorem le_write {o : HO} : Le (fz H (plus W a) ι) (fz (upd H a o) (plus W a) ι) := fun b u h => by
  obtain ⟨h1, h2, h3⟩ := fz_of h
  have : b ≠ a := fun e => h1 (.inr e)
  exact ⟨u, by rw [fz_at h1 h2, upd_ne this]; exact h3, rfl⟩
theorem Rl.write {o : HO} (R : Rl K (plus W a) σ H ι δ st) : Rl K (plus W a) σ (upd H a o) ι δ st := by
  refine R.swap le_write (fun b hb => ?_) R.sto.wd (fun b hb => ?_)
  · exact upd_ne fun e => R.sto.wd b hb (.inr e)
  · by_cases e : b = a
    · subst e; rw [upd_same]; simp
    · rw [upd_ne e]; exact R.sto.wn b hb
end

section
variable {X : Cx} {elt tg iter : Expr} {ifs : List Expr} {scope : Scope} {own : List (Str × Nat)} {pos : Pos} {f : FI} {ns : List Nat} {g : FG} {tt : FT} {fe : FE}
theorem lc_weak {K : PySem.W.Frag} {vs : List Nat} (hns : ∀ i ∈ ns, i ∈ vs) {σ : L2.St} {H : Hp} {Q : VK} (t : tE K (cLc f g tt fe vs) σ H Q) : tLc (tI K f) (tG K ns g) (tT K tt) (tE K fe) vs σ H Q := by
  obtain ⟨W, ι, δ, st, s, st', R, h, q⟩ := t
  obtain ⟨p, e1, h⟩ := Option.bind_eq_some_iff.mp h
  obtain ⟨chk, ss, st1⟩ := p
  dsimp only at h
  obtain ⟨r, h2, h⟩ := Option.bind_eq_some_iff.mp h
  obtain ⟨fin, stf⟩ := r
  cases h
  refine ⟨W, ι, δ, st, chk, ss, st1, R, e1, fun J H1 ι1 P1 R1 ok D hD => ?_⟩
  obtain ⟨hDW, hDι⟩ := R1.fresh hD
  -- the state at a turn: D is hidden
  have start : Rl K (plus W D) σ (upd H1 D (.lst [])) ι1 δ st1 := by
    refine R1.swap (le_hide hD (same_upd hD)) (fun b hb => upd_ne fun e => hDι (e ▸ hb)) (fun b hb z => z.elim (R1.sto.wd b hb) fun e => hDι (e ▸ hb)) (fun b hb => ?_)
    by_cases e : b = D
    · subst e; rw [upd_same]; simp
    · rw [upd_ne e]; exact R1.sto.wn b (hb.resolve_right e)
  refine ⟨fun i m H2 => m = ss.length - i ∧ i ≤ ss.length ∧ ∃ ι2 st2 acc accV, Ps H1 ι1 H2 ι2 ∧ Rl K (plus W D) σ H2 ι2 δ st2 ∧ H2 D = some (.lst accV) ∧ DrAll K (fz H2 (plus W D) ι2) accV acc ∧
      lcL chk g tt fe (wipeE δ vs) (ss.drop i) st2 acc = some (fin, stf), ⟨_, rfl, Nat.zero_le _, ι1, st1, [], [], Ps.same (same_upd hD), start, upd_same, .nil, h2⟩, ?_⟩
  rintro i m H2 ⟨rfl, hi, ι2, st2, acc, accV, P2, R2, hDv, ra, e2⟩
  have L2 : Le (fz H1 W ι1) (fz H2 (plus W D) ι2) := fun b o h => by
    obtain ⟨b1, b2, b3⟩ := fz_of h
    have hb : b ≠ D := fun e => by subst e; rw [hD] at b3; cases b3
    refine ⟨o, ?_, rfl⟩
    rw [fz_at (fun z => z.elim b1 hb) (fun z => ?_)]
    · exact P2.keep b o b2 b3
    · rcases P2.new b z with z | z
      · exact b2 z
      · rw [b3] at z; cases z
  by_cases hlt : i < ss.length
  · rw [List.drop_eq_getElem_cons hlt] at e2
    obtain ⟨u, c1, e2⟩ := Option.bind_eq_some_iff.mp e2
    obtain ⟨δ3, c2, e2⟩ := Option.bind_eq_some_iff.mp e2
    obtain ⟨p3, c3, e2⟩ := Option.bind_eq_some_iff.mp e2
    obtain ⟨go, yld⟩ := (ok H2 ι2 st2 (plus W D) i P2 L2 R2.sto c1).2 _ (List.getElem?_eq_getElem hlt)
    refine .inr ⟨go, fun H4 => ∃ ι4 st4 acc4 accV4, Ps H1 ι1 H4 ι4 ∧ Rl K (plus W D) σ H4 ι4 δ st4 ∧ H4 D = some (.lst accV4) ∧ DrAll K (fz H4 (plus W D) ι4) accV4 acc4 ∧
      lcL chk g tt fe (wipeE δ vs) (ss.drop (i + 1)) st4 acc4 = some (fin, stf), fun H4 h4 => ⟨_, Nat.sub_lt_sub_left hlt (Nat.lt_succ_self i), rfl, hlt, h4⟩, fun x H3 y => ?_⟩
    obtain ⟨S3, rx⟩ := yld x H3 y
    have R3 := R2.same S3
    have P3 := P2.trans (Ps.same S3)
    have hDv3 := S3 _ _ hDv
    have ra3 := DrAll.mono (Ps.le (W := plus W D) (Ps.same (ι := ι2) S3)) ra
    refine ⟨plus W D, ι2, wipeE δ vs, st2, ss[i], δ3, R3.wipe vs, rx, c2, fun σ5 o5 R5 => ⟨wipe_off o5 hns, ?_⟩⟩
    refine ⟨plus W D, ι2, δ3, st2, p3.1, p3.2, R5, c3, fun H6 ι6 P6 R6 => ?_⟩
    have hDn : D ∉ ι2 := fun z => R2.sto.wd D z (.inr rfl)
    have R6' := R3.move P6 R6.sto
    have ra6 := DrAll.mono P6.le ra3
    have hDv6 := P6.keep _ _ hDn hDv3
    cases c : p3.1 with
    | false =>
      rw [if_neg (by rw [c]; exact Bool.false_ne_true)] at e2
      exact (if_neg Bool.false_ne_true).mpr ⟨ι6, p3.2, acc, accV, P3.trans P6, R6', hDv6, ra6, e2⟩
    | true =>
      rw [if_pos c] at e2
      obtain ⟨p7, c7, e2⟩ := Option.bind_eq_some_iff.mp e2
      obtain ⟨d, c8, e2⟩ := Option.bind_eq_some_iff.mp e2
      refine (if_pos rfl).mpr ⟨plus W D, ι6, δ3, p3.2, p7.1, p7.2, R6, c7, fun y7 H7 ι7 P7 R7 r7 => ?_⟩
      split at e2
      case isFalse => cases e2
      rename_i hsz
      have hDn6 : D ∉ ι6 := fun z => R6.sto.wd D z (.inr rfl)
      have hDv7 := P7.keep _ _ hDn6 hDv6
      have ra7 := DrAll.mono P7.le ra6
      have R7' := R6'.move P7 R7.sto
      have ed : p7.1 = .d d := by
        cases e : p7.1 with
        | d x => rw [e] at c8; cases c8; rfl
        | r n => rw [e] at c8; cases c8
      rw [ed] at r7
      refine ⟨accV, hDv7, by rw [ra7.length]; exact hsz, ι7, p7.2, acc ++ [d], accV ++ [y7], ?_, R7'.write, upd_same, ?_, e2⟩
      · have P8 := (P3.trans P6).trans P7
        refine ⟨fun b o hb hbo => ?_, fun b hb => ?_, P8.new, P8.pre⟩
        · have : b ≠ D := fun e => by subst e; rw [hD] at hbo; cases hbo
          rw [upd_ne this]
          exact P8.keep b o hb hbo
        · by_cases e : b = D
          · subst e; rw [upd_same]; simp
          · rw [upd_ne e]; exact P8.dom b hb
      · have r7' : Dr K (fz H7 (plus W D) ι7) y7 d := r7
        exact DrAll.mono le_write (ra7.append (.cons r7' .nil))
  · have hi' : i = ss.length := by omega
    subst hi'
    rw [List.drop_length] at e2
    obtain ⟨u, c1, e2⟩ := Option.bind_eq_some_iff.mp e2
    have hs := (ok H2 ι2 st2 (plus W D) _ P2 L2 R2.sto c1).1 (Nat.le_refl _)
    cases e2
    have h1 : D ∉ ι2 := fun z => R2.sto.wd D z (.inr rfl)
    refine .inl ⟨hs, q _ H2 ι2 (P1.trans P2) (R2.swap le_plus (fun _ _ => rfl) (fun b hb z => R2.sto.wd b hb (.inl z)) (fun b z => R2.sto.wn b (.inl z))) (Dr.lst (xs := accV) ?_ (DrAll.mono le_plus ra))⟩
    rw [fz_at hDW h1]
    exact hDv
theorem de_lc (hc : X.calm = true) (hN : X.N.Nodup) (hi : DI X tg iter f) (ok : BlkOk X.N X.env.scope scope own)
    (hg : ∀ (s : Shared) (H : Hp) (C : Addr) (cl : List (Str × Addr)) (fp : List Addr), DG (X.blk s H scope (compEnvC scope cl C X.env) fp) tg ns g) (ht : ∀ (s : Shared) (H : Hp) (C : Addr) (cl : List (Str × Addr)) (fp : List Addr), DTs (X.blk s H scope (compEnvC scope cl C X.env) fp) ifs tt)
    (he : ∀ (s : Shared) (H : Hp) (C : Addr) (cl : List (Str × Addr)) (fp : List Addr), DE (X.blk s H scope (compEnvC scope cl C X.env) fp) elt fe) (hns : ∀ i ∈ ns, i ∈ own.map (·.2) := by decide) (hs : ∀ x, foldedSetIterable iter X.env x = pure x := by intro _; rfl) :
    DE X (.ListComp elt [⟨tg, iter, ifs, 0⟩] scope pos) (cLc f g tt fe (own.map (·.2))) :=
  ⟨PE_weak (pe_lc (te := tE X.K fe) (g := tG X.K ns g) (tt := tT X.K tt) hc hN hi.pi ok (fun s H C cl fp => (hg s H C cl fp).pg) (fun s H C cl fp => (ht s H C cl fp).pts) (fun s H C cl fp => (he s H C cl fp).pe) hs) fun _ _ _ t => lc_weak hns t⟩
theorem ds_setLc {i : Nat} {y : Str} {py spos : Pos} (hc : X.calm = true) (hN : X.N.Nodup) (hy : X.N[i]? = some y) (hyl : X.env.scope.names.lookup y = some .local)
    (hsw : swapsWith (.ListComp elt [⟨tg, iter, ifs, 0⟩] scope pos) (some (.Name y py)) spos.line X.env = pure true) (hi : DI X tg iter f) (ok : BlkOk X.N X.env.scope scope own)
    (hg : ∀ (s : Shared) (H : Hp) (C : Addr) (cl : List (Str × Addr)) (fp : List Addr), DG (X.blk s H scope (compEnvC scope cl C X.env) fp) tg ns g) (ht : ∀ (s : Shared) (H : Hp) (C : Addr) (cl : List (Str × Addr)) (fp : List Addr), DTs (X.blk s H scope (compEnvC scope cl C X.env) fp) ifs tt)
    (he : ∀ (s : Shared) (H : Hp) (C : Addr) (cl : List (Str × Addr)) (fp : List Addr), DE (X.blk s H scope (compEnvC scope cl C X.env) fp) elt fe) (hns : ∀ i ∈ ns, i ∈ own.map (·.2) := by decide) (hs : ∀ x, foldedSetIterable iter X.env x = pure x := by intro _; rfl) :
    DS X (.Assign [.Name y py] (.ListComp elt [⟨tg, iter, ifs, 0⟩] scope pos) spos) (cSet i (cLc f g tt fe (own.map (·.2)))) := by
  refine ⟨PS_weak (ps_setLc (te := tE X.K fe) (g := tG X.K ns g) (tt := tT X.K tt) hc hN hy hyl hsw hi.pi ok (fun s H C cl fp => (hg s H C cl fp).pg) (fun s H C cl fp => (ht s H C cl fp).pts) (fun s H C cl fp => (he s H C cl fp).pe) hs) fun D σ H t => ?_⟩
  obtain ⟨W, ι, δ, st, o, δ', st', R, e, q⟩ := t
  obtain ⟨p, h1, e⟩ := Option.bind_eq_some_iff.mp e
  cases e
  exact lc_weak hns ⟨W, ι, δ, st, p.1, p.2, R, h1, fun v H1 ι1 P1 R1 r1 => q _ H1 ι1 P1 (R1.set i r1)⟩
end
end DL

set_option maxHeartbeats 1000000
/-! DM: methods of lists and texts, dicts. -/
namespace DL
open PySem PySem.Spec L2

/-! ### an object of the store is written -/
theorem sto_set {K : PySem.W.Frag} {W : Addr → Prop} {H : Hp} {ι : List Addr} {st : Store} {n : Nat} {a : Addr} {o : MO} {u : HO} (S : Sto K W H ι st) (ha : ι[n]? = some a) (new : MoR K (fz H W ι) (upd H a u) ι a o) :
    Ps H ι (upd H a u) ι ∧ Sto K W (upd H a u) ι (st.set n o) := by
  have hm : a ∈ ι := List.mem_of_getElem? ha
  have P : Ps H ι (upd H a u) ι := ⟨fun b x hb h => by rw [upd_ne (fun e => hb (by subst e; exact hm))]; exact h, fun b h => by
    by_cases e : b = a
    · subst e; rw [upd_same]; simp
    · rw [upd_ne e]; exact h, fun _ h => .inl h, List.prefix_refl _⟩
  refine ⟨P, ⟨S.nd, by rw [List.length_set]; exact S.len, S.wd, fun b hb => P.dom b (S.wn b hb), fun m x b h1 h2 => ?_⟩⟩
  by_cases e : n = m
  · subst e
    rw [ha] at h2
    cases h2
    have hn : n < st.length := by rw [← S.len]; exact (List.getElem?_eq_some_iff.mp ha).1
    rw [List.getElem?_set_self hn] at h1
    cases h1
    exact new.mono P.le (List.prefix_refl _) fun _ h => h
  · rw [List.getElem?_set_ne e] at h1
    have hb : b ≠ a := fun z => by
      subst z
      obtain ⟨b1, b2⟩ := List.getElem?_eq_some_iff.mp ha
      obtain ⟨c1, c2⟩ := List.getElem?_eq_some_iff.mp h2
      exact e ((List.getElem_inj (h₀ := b1) (h₁ := c1) S.nd).mp (b2.trans c2.symm))
    exact (S.mo m x b h1 h2).mono P.le (List.prefix_refl _) fun y hy => by rw [upd_ne hb]; exact hy

/-! ### xs.append(e), xs.extend(e), xs.pop() -/
def lstAt (st : Store) : SV → Option (Nat × List SV)
  | .r n => match st[n]? with
    | some (.lst ss) => some (n, ss)
    | _ => none
  | _ => none
theorem lstAt_ok {st : Store} {s : SV} {n : Nat} {ss : List SV} (h : lstAt st s = some (n, ss)) : s = .r n ∧ st[n]? = some (.lst ss) := by
  unfold lstAt at h
  split at h
  · split at h
    · rename_i e; cases h; exact ⟨rfl, e⟩
    · cases h
  · cases h
def cApp (fo fe : FE) : FE := fun δ st => (fo δ st).bind fun p => (lstAt p.2 p.1).bind fun _ => (fe δ p.2).bind fun q => (lstAt q.2 p.1).bind fun l => if l.2.length < sizeLine then some (.d .non, q.2.set l.1 (.lst (l.2 ++ [q.1]))) else none
def cExt (fo fe : FE) : FE := fun δ st => (fo δ st).bind fun p => (lstAt p.2 p.1).bind fun _ => (fe δ p.2).bind fun q => (lstAt q.2 p.1).bind fun l => (litems q.2 q.1).bind fun ds =>
  if l.2.length + ds.length ≤ sizeLine then some (.d .non, q.2.set l.1 (.lst (l.2 ++ ds.map .d))) else none
def cPop (fo : FE) : FE := fun δ st => (fo δ st).bind fun p => (lstAt p.2 p.1).bind fun l => (l.2[l.2.length - 1]?).bind fun s => some (s, p.2.set l.1 (.lst l.2.dropLast))
/-- xs.pop(0) -/
def cPop0 (fo fe : FE) : FE := fun δ st => (fo δ st).bind fun p => (lstAt p.2 p.1).bind fun _ => (fe δ p.2).bind fun q => (lstAt q.2 p.1).bind fun l => match q.1, l.2 with
  | .d (.int 0), s :: r => some (s, q.2.set l.1 (.lst r))
  | _, _ => none
theorem svAll_dropLast {K : PySem.W.Frag} {F : Hp} {ι : List Addr} : ∀ {xs : List V} {ss : List SV}, SvAll K F ι xs ss → SvAll K F ι xs.dropLast ss.dropLast
  | _, _, .nil => .nil
  | _, _, .cons r .nil => .nil
  | _, _, .cons r (.cons r2 t) => .cons r (svAll_dropLast (.cons r2 t))
theorem svAll_app {K : PySem.W.Frag} {F : Hp} {ι : List Addr} : ∀ {xs ys : List V} {ss ts : List SV}, SvAll K F ι xs ss → SvAll K F ι ys ts → SvAll K F ι (xs ++ ys) (ss ++ ts)
  | _, _, _, _, .nil, h => h
  | _, _, _, _, .cons r t, h => .cons r (svAll_app t h)
section
variable {X : Cx} {o e : Expr} {es : List Expr} {fo fe : FE} {apos cpos : Pos}
theorem de_app (ho : DE X o fo) (he : DE X e fe) (hs : starEach [e] X.env = (false, eval e X.env) :: starEach [] X.env := by rfl) (hbase : attributeBase o "append" X.env (eval o X.env) = eval o X.env := by rfl)
    (hline : (apos.endLine == cpos.line) = true := by rfl)
    (hfew : ((backTo cpos (starEach [e] X.env)).all (fun x => !x.1) && (backToKw cpos (keywordEach [] X.env)).all (fun x => x.1.isSome)
      && decide (([e] : List Expr).length + ([] : List Keyword).length + (if ([] : List Keyword).isEmpty then 0 else 1) < 30)) = true := by rfl) :
    DE X (.Call (.Attribute o "append" apos) [e] [] cpos) (cApp fo fe) := by
  refine ⟨PE_weak (pe_bm PySem.F.plainAttrs_list PySem.F.slot_list_append PySem.F.type_list_append mt_append ho.pe (da_cons he da_nil hs).pa hbase hfew hline hs) ?_⟩
  rintro σ H Q ⟨W, ι, δ, st, s, st', R, h, q⟩
  obtain ⟨p, h1, h⟩ := Option.bind_eq_some_iff.mp h
  obtain ⟨l0, h2, h⟩ := Option.bind_eq_some_iff.mp h
  obtain ⟨p3, h3, h⟩ := Option.bind_eq_some_iff.mp h
  obtain ⟨l, h4, h⟩ := Option.bind_eq_some_iff.mp h
  split at h
  case isFalse => cases h
  rename_i hz
  cases h
  obtain ⟨n0, ss0⟩ := l0
  obtain ⟨n, ss⟩ := l
  refine ⟨W, ι, δ, st, p.1, p.2, R, h1, fun v H1 ι1 P1 R1 r1 => ?_⟩
  obtain ⟨e0, e1⟩ := lstAt_ok h2
  obtain ⟨e2, e3⟩ := lstAt_ok h4
  rw [e0] at e2 r1
  cases e2
  obtain ⟨a, ha, rfl, xs, hx, _⟩ := R1.sto.r r1 e1
  refine ⟨.inl ⟨rfl, xs, .of hx⟩, W, ι1, δ, p.2, [p3.1], p3.2, R1, by simp [cCons, h3, cNil], fun vs H2 ι2 P2 R2 r2 => ?_⟩
  obtain ⟨y, rfl, ry⟩ := sv1 r2
  obtain ⟨ys, hy, ky⟩ := R2.sto.mo _ _ a e3 (pre_get P2.pre ha)
  obtain ⟨P3, S3⟩ := sto_set (o := .lst (ss ++ [p3.1])) (u := .lst (ys ++ [y])) R2.sto (pre_get P2.pre ha) ⟨_, upd_same, svAll_app ky (.cons ry .nil)⟩
  refine ⟨a, ys, y, rfl, rfl, hy, by rw [show ys.length = ss.length from Paired.length ky]; exact hz, ?_⟩
  exact q _ _ ι2 ((P1.trans P2).trans P3) (R2.move P3 S3) Dr.non
theorem de_ext (ho : DE X o fo) (he : DE X e fe) (hs : starEach [e] X.env = (false, eval e X.env) :: starEach [] X.env := by rfl) (hbase : attributeBase o "extend" X.env (eval o X.env) = eval o X.env := by rfl)
    (hline : (apos.endLine == cpos.line) = true := by rfl)
    (hfew : ((backTo cpos (starEach [e] X.env)).all (fun x => !x.1) && (backToKw cpos (keywordEach [] X.env)).all (fun x => x.1.isSome)
      && decide (([e] : List Expr).length + ([] : List Keyword).length + (if ([] : List Keyword).isEmpty then 0 else 1) < 30)) = true := by rfl) :
    DE X (.Call (.Attribute o "extend" apos) [e] [] cpos) (cExt fo fe) := by
  refine ⟨PE_weak (pe_bm PySem.F.plainAttrs_list PySem.F.slot_list_extend PySem.F.type_list_extend mt_extend ho.pe (da_cons he da_nil hs).pa hbase hfew hline hs) ?_⟩
  rintro σ H Q ⟨W, ι, δ, st, s, st', R, h, q⟩
  obtain ⟨p, h1, h⟩ := Option.bind_eq_some_iff.mp h
  obtain ⟨l0, h2, h⟩ := Option.bind_eq_some_iff.mp h
  obtain ⟨p3, h3, h⟩ := Option.bind_eq_some_iff.mp h
  obtain ⟨l, h4, h⟩ := Option.bind_eq_some_iff.mp h
  obtain ⟨ds, h5, h⟩ := Option.bind_eq_some_iff.mp h
  split at h
  case isFalse => cases h
  rename_i hz
  cases h
  obtain ⟨n0, ss0⟩ := l0
  obtain ⟨n, ss⟩ := l
  refine ⟨W, ι, δ, st, p.1, p.2, R, h1, fun v H1 ι1 P1 R1 r1 => ?_⟩
  obtain ⟨e0, e1⟩ := lstAt_ok h2
  obtain ⟨e2, e3⟩ := lstAt_ok h4
  rw [e0] at e2 r1
  cases e2
  obtain ⟨a, ha, rfl, xs, hx, _⟩ := R1.sto.r r1 e1
  refine ⟨.inl ⟨rfl, xs, .of hx⟩, W, ι1, δ, p.2, [p3.1], p3.2, R1, by simp [cCons, h3, cNil], fun vs H2 ι2 P2 R2 r2 => ?_⟩
  obtain ⟨y, rfl, ry⟩ := sv1 r2
  obtain ⟨ys, hy, ky⟩ := R2.sto.mo _ _ a e3 (pre_get P2.pre ha)
  obtain ⟨b, zs, rfl, hb, kb⟩ := litems_ok R2.sto ry h5
  obtain ⟨P3, S3⟩ := sto_set (o := .lst (ss ++ ds.map .d)) (u := .lst (ys ++ zs)) R2.sto (pre_get P2.pre ha) ⟨_, upd_same, svAll_app ky (of_drAll kb)⟩
  refine ⟨a, b, ys, zs, rfl, rfl, hy, hb, by rw [show ys.length = ss.length from Paired.length ky, kb.length]; exact hz, ?_⟩
  exact q _ _ ι2 ((P1.trans P2).trans P3) (R2.move P3 S3) Dr.non
theorem de_pop (ho : DE X o fo) (hbase : attributeBase o "pop" X.env (eval o X.env) = eval o X.env := by rfl) (hline : (apos.endLine == cpos.line) = true := by rfl) :
    DE X (.Call (.Attribute o "pop" apos) [] [] cpos) (cPop fo) := by
  refine ⟨PE_weak (pe_bm0 PySem.F.plainAttrs_list PySem.F.slot_list_pop PySem.F.type_list_pop mt_pop ho.pe hbase hline) ?_⟩
  rintro σ H Q ⟨W, ι, δ, st, s, st', R, h, q⟩
  obtain ⟨p, h1, h⟩ := Option.bind_eq_some_iff.mp h
  obtain ⟨l, h4, h⟩ := Option.bind_eq_some_iff.mp h
  obtain ⟨z, h5, h⟩ := Option.bind_eq_some_iff.mp h
  cases h
  obtain ⟨n, ss⟩ := l
  refine ⟨W, ι, δ, st, p.1, p.2, R, h1, fun v H1 ι1 P1 R1 r1 => ?_⟩
  obtain ⟨e2, e3⟩ := lstAt_ok h4
  rw [e2] at r1
  obtain ⟨a, ha, rfl, xs, hx, kx⟩ := R1.sto.r r1 e3
  obtain ⟨y, g1, g2⟩ := paired_get kx h5
  obtain ⟨P3, S3⟩ := sto_set (o := .lst ss.dropLast) (u := .lst xs.dropLast) R1.sto ha ⟨_, upd_same, svAll_dropLast kx⟩
  refine ⟨.inl ⟨rfl, xs, .of hx⟩, a, xs, y, rfl, rfl, hx, by rw [show xs.length = ss.length from Paired.length kx]; exact g1, ?_⟩
  exact q _ _ ι1 (P1.trans P3) (R1.move P3 S3) (SvR.ps P3 g2)
theorem de_pop0 (ho : DE X o fo) (he : DE X e fe) (hs : starEach [e] X.env = (false, eval e X.env) :: starEach [] X.env := by rfl) (hbase : attributeBase o "pop" X.env (eval o X.env) = eval o X.env := by rfl)
    (hline : (apos.endLine == cpos.line) = true := by rfl)
    (hfew : ((backTo cpos (starEach [e] X.env)).all (fun x => !x.1) && (backToKw cpos (keywordEach [] X.env)).all (fun x => x.1.isSome)
      && decide (([e] : List Expr).length + ([] : List Keyword).length + (if ([] : List Keyword).isEmpty then 0 else 1) < 30)) = true := by rfl) :
    DE X (.Call (.Attribute o "pop" apos) [e] [] cpos) (cPop0 fo fe) := by
  refine ⟨PE_weak (pe_bm PySem.F.plainAttrs_list PySem.F.slot_list_pop PySem.F.type_list_pop mt_popAt ho.pe (da_cons he da_nil hs).pa hbase hfew hline hs) ?_⟩
  rintro σ H Q ⟨W, ι, δ, st, s, st', R, h, q⟩
  obtain ⟨p, h1, h⟩ := Option.bind_eq_some_iff.mp h
  obtain ⟨l0, h2, h⟩ := Option.bind_eq_some_iff.mp h
  obtain ⟨p3, h3, h⟩ := Option.bind_eq_some_iff.mp h
  obtain ⟨l, h4, h⟩ := Option.bind_eq_some_iff.mp h
  obtain ⟨n0, ss0⟩ := l0
  obtain ⟨n, ss⟩ := l
  refine ⟨W, ι, δ, st, p.1, p.2, R, h1, fun v H1 ι1 P1 R1 r1 => ?_⟩
  obtain ⟨e0, e1⟩ := lstAt_ok h2
  obtain ⟨e2, e3⟩ := lstAt_ok h4
  rw [e0] at e2 r1
  cases e2
  obtain ⟨a, ha, rfl, xs, hx, _⟩ := R1.sto.r r1 e1
  refine ⟨.inl ⟨rfl, xs, .of hx⟩, W, ι1, δ, p.2, [p3.1], p3.2, R1, by simp [cCons, h3, cNil], fun vs H2 ι2 P2 R2 r2 => ?_⟩
  obtain ⟨y, rfl, ry⟩ := sv1 r2
  obtain ⟨ys, hy, ky⟩ := R2.sto.mo _ _ a e3 (pre_get P2.pre ha)
  dsimp only at h
  split at h
  · rename_i z rest e5
    cases h
    rw [e5] at ry
    cases ky with
    | cons g1 g2 =>
      rename_i y0 ys0
      obtain ⟨P3, S3⟩ := sto_set (o := .lst rest) (u := .lst ys0) R2.sto (pre_get P2.pre ha) ⟨_, upd_same, g2⟩
      refine ⟨a, y0 :: ys0, 0, 0, y0, rfl, by rw [dr_int ry], hy, by decide, by decide, ?_, rfl, ?_⟩
      · rw [List.length_cons]
        exact (ixN_seq (n := ys0.length + 1) (i := 0) (j := 0) (by unfold ixN; simp)).1
      · exact q _ _ ι2 ((P1.trans P2).trans P3) (R2.move P3 S3) (SvR.ps P3 g1)
  · cases h

/-! ### texts -/
def strAll : List D → Option (List (List Nat))
  | [] => some []
  | .str s :: r => (strAll r).map (s :: ·)
  | _ => none
theorem strAll_ok {K : PySem.W.Frag} {F : Hp} : ∀ {ds : List D} {xs : List V} {zs : List (List Nat)}, DrAll K F xs ds → strAll ds = some zs → xs = (zs.map fun z => (⟨z.toArray⟩ : Str)).map V.str ∧ ∀ z ∈ zs, sOk z = true
  | [], _, zs, .nil, e => by cases e; exact ⟨rfl, by simp⟩
  | .str s :: r, _, zs, .cons h t, e => by
    obtain ⟨z2, e1, e2⟩ := Option.map_eq_some_iff.mp e
    subst e2
    obtain ⟨h1, h2⟩ := strAll_ok t e1
    cases h with
    | str s ok =>
      refine ⟨by rw [h1]; rfl, fun z hz => ?_⟩
      rcases List.mem_cons.mp hz with rfl | hz
      · exact ok
      · exact h2 z hz
def joinN (sep : List Nat) : List (List Nat) → List Nat
  | [] => []
  | [x] => x
  | x :: r => x ++ sep ++ joinN sep r
theorem join_str (sep : List Nat) : ∀ zs : List (List Nat), Str.join ⟨sep.toArray⟩ (zs.map fun z => (⟨z.toArray⟩ : Str)) = ⟨(joinN sep zs).toArray⟩
  | [] => rfl
  | [x] => rfl
  | x :: y :: r => by
    have ih := join_str sep (y :: r)
    show (⟨x.toArray⟩ : Str) ++ ⟨sep.toArray⟩ ++ Str.join ⟨sep.toArray⟩ ((y :: r).map fun z => (⟨z.toArray⟩ : Str)) = _
    rw [ih, str_app, str_app]
    rfl
theorem joinN_mem {sep : List Nat} {c : Nat} : ∀ {zs : List (List Nat)}, c ∈ joinN sep zs → c ∈ sep ∨ ∃ z ∈ zs, c ∈ z
  | [], h => by cases h
  | [x], h => .inr ⟨x, by simp, h⟩
  | x :: y :: r, h => by
    have h : c ∈ x ++ sep ++ joinN sep (y :: r) := h
    rcases List.mem_append.mp h with h | h
    · rcases List.mem_append.mp h with h | h
      · exact .inr ⟨x, by simp, h⟩
      · exact .inl h
    · rcases joinN_mem h with h | ⟨z, h1, h2⟩
      · exact .inl h
      · exact .inr ⟨z, List.mem_cons_of_mem _ h1, h2⟩
theorem joinN_len (sep : List Nat) : ∀ zs : List (List Nat), (joinN sep zs).length ≤ (zs.map List.length).sum + zs.length * sep.length
  | [] => by simp [joinN]
  | [x] => by simp [joinN]
  | x :: y :: r => by
    have ih := joinN_len sep (y :: r)
    show (x ++ sep ++ joinN sep (y :: r)).length ≤ _
    rw [List.length_append, List.length_append, List.map_cons, List.sum_cons, List.length_cons (as := y :: r), Nat.add_mul]
    omega
def dJoin (st : Store) (sep : SV) (x : SV) : Option SV := match sep with
  | .d (.str s) => (ditems st x).bind fun ds => (strAll ds).bind fun zs => if (zs.map List.length).sum + zs.length * s.length ≤ 16777216 then some (.d (.str (joinN s zs))) else none
  | _ => none
def cBin (g : Store → SV → SV → Option SV) (fo fe : FE) : FE := cOp g fo fe
theorem de_join (ho : DE X o fo) (he : DE X e fe) (hs : starEach [e] X.env = [(false, eval e X.env)] := by rfl) (hbase : attributeBase o "join" X.env (eval o X.env) = eval o X.env := by rfl)
    (hline : (apos.endLine == cpos.line) = true := by rfl) : DE X (.Call (.Attribute o "join" apos) [e] [] cpos) (cOp dJoin fo fe) := by
  refine ⟨PE_weak (pe_join ho.pe he.pe hs hbase hline) ?_⟩
  rintro σ H Q ⟨W, ι, δ, st, s, st', R, h, q⟩
  obtain ⟨p, h1, h⟩ := Option.bind_eq_some_iff.mp h
  obtain ⟨p2, h2, h⟩ := Option.bind_eq_some_iff.mp h
  obtain ⟨z, h3, h⟩ := Option.bind_eq_some_iff.mp h
  cases h
  unfold dJoin at h3
  split at h3
  case h_2 => cases h3
  rename_i sep e1
  obtain ⟨ds, h4, h3⟩ := Option.bind_eq_some_iff.mp h3
  obtain ⟨zs, h5, h3⟩ := Option.bind_eq_some_iff.mp h3
  split at h3
  case isFalse => cases h3
  rename_i hz
  cases h3
  refine ⟨W, ι, δ, st, p.1, p.2, R, h1, fun v H1 ι1 P1 R1 r1 => ?_⟩
  rw [e1] at r1
  obtain ⟨rfl, k⟩ := dr_str r1
  refine ⟨⟨_, rfl⟩, W, ι1, δ, p.2, p2.1, p2.2, R1, h2, fun v2 H2 ι2 P2 R2 r2 => ?_⟩
  obtain ⟨a, xs, rfl, hq, kd⟩ := ditems_ok R2.sto r2 h4
  obtain ⟨rfl, hok⟩ := strAll_ok kd h5
  refine ⟨_, a, _, rfl, rfl, hq.elim (fun h => .inl h.2) .inr, ?_, ?_⟩
  · simpa [Str.length, List.map_map, Function.comp_def] using hz
  · rw [show Txt.join _ _ = Str.join _ _ from TL.join_eq _ _, join_str]
    refine q _ H2 ι2 (P1.trans P2) R2 (Dr.str _ (sOk_of ?_ fun c hc => ?_))
    · have := joinN_len sep zs
      rw [sizeLine_eq]
      omega
    · rcases joinN_mem hc with h | ⟨z, g1, g2⟩
      · exact sOk_all k c h
      · exact sOk_all (hok z g1) c g2
/-- s.index(sign), xs.index(data) -/
def dIndex (st : Store) (x y : SV) : Option SV := match x, y with
  | .d (.str s), .d (.str [c]) => if c ∈ s then some (.d (.int (s.idxOf c : Nat))) else none
  | _, _ => (litems st x).bind fun ds => (toD st y).bind fun d => if eqOkAll 30 ds = true ∧ eqOk 30 d = true ∧ (ds.any fun z => D.eqv z d) = true then some (.d (.int ((ds.findIdx fun z => D.eqv z d : Nat)))) else none
def idxKind (st : Store) : SV → Option Unit
  | .d (.str _) => some ()
  | s => (litems st s).map fun _ => ()
def cIndex (fo fe : FE) : FE := fun δ st => (fo δ st).bind fun p => (idxKind p.2 p.1).bind fun _ => (fe δ p.2).bind fun q => (dIndex q.2 p.1 q.1).bind fun s => some (s, q.2)
theorem occ_one {s : List Nat} {c : Nat} (h : c ∈ s) : ∃ rest, Builtin.Str.occurrences ⟨s.toArray⟩ ⟨#[c]⟩ 0 (⟨s.toArray⟩ : Str).length 1 = s.idxOf c :: rest := by
  have hAt : ∀ i, PySem.StrLaws.At ⟨s.toArray⟩ ⟨#[c]⟩ (⟨s.toArray⟩ : Str).length i ↔ s[i]? = some c := fun i => by
    have := PySem.StrLaws.subAt_one ⟨s.toArray⟩ c i
    unfold PySem.StrLaws.At
    simpa using this
  rcases PySem.StrLaws.occ_head ⟨s.toArray⟩ ⟨#[c]⟩ 1 (Nat.le_refl _) with ⟨_, hn⟩ | ⟨i, r, h1, h2, h3⟩
  · obtain ⟨j, hj⟩ := List.getElem?_of_mem h
    exact absurd ((hAt j).mpr hj) (hn j)
  · refine ⟨r, ?_⟩
    rw [h1]
    congr 1
    have g1 := (hAt i).mp h2
    have g2 : s.idxOf c < s.length := List.idxOf_lt_length_of_mem h
    have g3 : s[s.idxOf c]? = some c := by rw [List.getElem?_eq_getElem g2]; simp
    rcases Nat.lt_trichotomy i (s.idxOf c) with hl | hl | hl
    · have h5 : s.idxOf c ≤ i := by
        have hi := (List.getElem?_eq_some_iff.mp g1)
        obtain ⟨hi, e⟩ := hi
        have := List.not_of_lt_findIdx (p := fun x => x == c) (xs := s) (i := i) hl
        simp [e] at this
      omega
    · exact hl
    · exact absurd ((hAt _).mpr g3) (h3 _ hl)
theorem pyAll_get : ∀ {ds : List D} {j : Nat} {z : PyData}, (pyAll ds)[j]? = some z → ∃ d, ds[j]? = some d ∧ z = py d
  | [], j, z, h => by simp [pyAll] at h
  | d :: ds, 0, z, h => by simp [pyAll] at h; exact ⟨d, rfl, h.symm⟩
  | d :: ds, j + 1, z, h => by simp only [pyAll, List.getElem?_cons_succ] at h ⊢; exact pyAll_get h
theorem pyAll_get' : ∀ {ds : List D} {j : Nat} {d : D}, ds[j]? = some d → (pyAll ds)[j]? = some (py d)
  | [], j, z, h => by simp at h
  | d :: ds, 0, z, h => by simp at h; subst h; simp [pyAll]
  | d :: ds, j + 1, z, h => by simp only [pyAll, List.getElem?_cons_succ] at h ⊢; exact pyAll_get' h
theorem eqOkAll_get {n : Nat} {ds : List D} (h : eqOkAll n ds = true) {j : Nat} {d : D} (e : ds[j]? = some d) : eqOk n d = true := by
  rw [eqOkAll_eq] at h
  exact List.all_eq_true.mp h d (List.mem_of_getElem? e)
theorem de_indexS (ho : DE X o fo) (he : DE X e fe) (hu : X.A.units + 65 < cLine) (hs : starEach [e] X.env = (false, eval e X.env) :: starEach [] X.env := by rfl) (hbase : attributeBase o "index" X.env (eval o X.env) = eval o X.env := by rfl)
    (hline : (apos.endLine == cpos.line) = true := by rfl)
    (hfew : ((backTo cpos (starEach [e] X.env)).all (fun x => !x.1) && (backToKw cpos (keywordEach [] X.env)).all (fun x => x.1.isSome)
      && decide (([e] : List Expr).length + ([] : List Keyword).length + (if ([] : List Keyword).isEmpty then 0 else 1) < 30)) = true := by rfl) :
    DE X (.Call (.Attribute o "index" apos) [e] [] cpos) (cIndex fo fe) := by
  have pS := pe_bm PySem.F.plainAttrs_str PySem.F.slot_str_index PySem.F.type_str_index mt_sindex ho.pe (da_cons he da_nil hs).pa hbase hfew hline hs
  have pL := pe_bm PySem.F.plainAttrs_list PySem.F.slot_list_index PySem.F.type_list_index (mt_indexD hu) ho.pe (da_cons he da_nil hs).pa hbase hfew hline hs
  refine ⟨⟨fun pins s σ H Q I t => ?_⟩⟩
  obtain ⟨W, ι, δ, st, s, st', R, h, q⟩ := t
  obtain ⟨p, h1, h⟩ := Option.bind_eq_some_iff.mp h
  obtain ⟨u0, hk, h⟩ := Option.bind_eq_some_iff.mp h
  obtain ⟨p2, h2, h⟩ := Option.bind_eq_some_iff.mp h
  obtain ⟨z, h3, h⟩ := Option.bind_eq_some_iff.mp h
  cases h
  have e1 : cCons fe cNil δ p.2 = some ([p2.1], p2.2) := by simp [cCons, h2, cNil]
  unfold dIndex at h3
  split at h3
  · rename_i z c g1 g2
    split at h3
    case isFalse => cases h3
    rename_i hc
    cases h3
    refine pS.run pins _ σ H Q I ⟨W, ι, δ, st, p.1, p.2, R, h1, fun v H1 ι1 P1 R1 r1 => ?_⟩
    rw [g1] at r1
    obtain ⟨rfl, k⟩ := dr_str r1
    refine ⟨rfl, W, ι1, δ, p.2, [p2.1], p2.2, R1, e1, fun vs H2 ι2 P2 R2 r2 => ?_⟩
    obtain ⟨y, rfl, ry⟩ := sv1 r2
    rw [g2] at ry
    obtain ⟨rfl, k2⟩ := dr_str ry
    obtain ⟨rest, ho⟩ := occ_one hc
    exact ⟨_, _, _, rest, rfl, rfl, ho, q _ H2 ι2 (P1.trans P2) R2 (svi _)⟩
  · obtain ⟨ds, h4, h3⟩ := Option.bind_eq_some_iff.mp h3
    obtain ⟨d, h5, h3⟩ := Option.bind_eq_some_iff.mp h3
    split at h3
    case isFalse => cases h3
    rename_i hc
    cases h3
    obtain ⟨c1, c2, c3⟩ := hc
    refine pL.run pins _ σ H Q I ⟨W, ι, δ, st, p.1, p.2, R, h1, fun v H1 ι1 P1 R1 r1 => ?_⟩
    have ty : tyV X.K "list" v H1 := by
      unfold idxKind at hk
      split at hk
      · rename_i z ez
        rw [ez] at h4
        cases h4
      · obtain ⟨ds0, hk, _⟩ := Option.map_eq_some_iff.mp hk
        obtain ⟨a, xs, rfl, g, _⟩ := litems_ok R1.sto r1 hk
        exact .inl ⟨rfl, _, .of g⟩
    refine ⟨ty, W, ι1, δ, p.2, [p2.1], p2.2, R1, e1, fun vs H2 ι2 P2 R2 r2 => ?_⟩
    obtain ⟨y, rfl, ry⟩ := sv1 r2
    obtain ⟨a, xs, rfl, hL, kL⟩ := litems_ok R2.sto (SvR.ps P2 r1) h4
    have hd := toD_ok R2.sto ry h5
    have kL' := DrAll.mono le_fz kL
    obtain ⟨b1, b2, b3⟩ := dpAll_of kL' c1
    have hex : ∃ z ∈ ds, D.eqv z d = true := by
      obtain ⟨z, g1, g2⟩ := List.any_eq_true.mp c3
      exact ⟨z, g1, g2⟩
    have hlt := List.findIdx_lt_length_of_exists hex
    refine ⟨a, y, py d, pyAll ds, ds.findIdx fun z => D.eqv z d, py ds[ds.findIdx fun z => D.eqv z d], rfl, rfl, .lst (.of hL) b1, (dp_of hd c2).1, ?_, shaped_of hd c2 (by decide), ?_, ?_, fun m z' hm hz => ?_, ?_⟩
    · unfold SeqAt.shaped
      rw [show (PyData.list (pyAll ds)).canLay0 = true by simp [PyData.canLay0, b2], Bool.true_and]
      exact decide_eq_true (by simp only [PyData.depth]; omega)
    · exact pyAll_get' (List.getElem?_eq_getElem hlt)
    · rw [eqv_py _ _ (eqOkAll_get c1 (List.getElem?_eq_getElem hlt)) c2]
      exact List.findIdx_getElem (w := hlt)
    · obtain ⟨z, g1, rfl⟩ := pyAll_get hz
      rw [eqv_py _ _ (eqOkAll_get c1 g1) c2]
      have := List.not_of_lt_findIdx (p := fun z => D.eqv z d) (xs := ds) hm
      obtain ⟨hm', e'⟩ := List.getElem?_eq_some_iff.mp g1
      rw [e'] at this
      simpa using this
    · exact q _ H2 ι2 (P1.trans P2) R2 (svi _)
end
end DL

set_option maxHeartbeats 1000000
/-! DN: dicts whose keys are ints and texts. -/
namespace DL
open PySem PySem.Spec L2

theorem gAddI_ok {s u z : SV} (h : gAddI s u = some z) : ∃ a b, s = .d (.int a) ∧ u = .d (.int b) ∧ z = .d (.int (a + b)) := by
  unfold gAddI at h
  split at h <;> cases h
  exact ⟨_, _, rfl, rfl, rfl⟩
def keyOf : SV → Option Key
  | .d (.int i) => some (.inl i)
  | .d (.str s) => some (.inr ⟨s.toArray⟩)
  | _ => none
theorem keyOf_ok {K : PySem.W.Frag} {F : Hp} {ι : List Addr} {v : V} {s : SV} {k : Key} (r : SvR K F ι v s) (h : keyOf s = some k) : v = kV k := by
  unfold keyOf at h
  split at h
  · cases h; exact dr_int r
  · cases h; exact (dr_str r).1
  · cases h
def findK {α : Type} (es : List (Key × α)) (k : Key) : Option α := (es.find? fun p => decide (p.1 = k)).map (·.2)
def putS (es : List (Key × SV)) (k : Key) (s : SV) : List (Key × SV) :=
  if (es.any fun p => decide (p.1 = k)) = true then es.map (fun p => if p.1 = k then (p.1, s) else p) else es ++ [(k, s)]
/-- the pairs of a dict -/
def dkS (st : Store) : SV → Option (List (Key × SV))
  | .d (.dk es) => some (es.map fun p => (p.1, .d p.2))
  | .r n => match st[n]? with
    | some (.dk es) => some es
    | _ => none
  | _ => none
section
variable {K : PySem.W.Frag} {W : Addr → Prop} {H : Hp} {ι : List Addr} {st : Store} {v : V} {s : SV}
theorem kv_find {F : Hp} : ∀ {kvs : List (Key × V)} {es : List (Key × SV)} (k : Key), kvs.map (·.1) = es.map (·.1) → SvAll K F ι (kvs.map (·.2)) (es.map (·.2)) →
    (valV kvs k = none ∧ findK es k = none) ∨ ∃ v s, valV kvs k = some v ∧ findK es k = some s ∧ SvR K F ι v s
  | [], [], k, _, _ => .inl ⟨rfl, rfl⟩
  | [], _ :: _, k, h, _ => by simp at h
  | _ :: _, [], k, h, _ => by simp at h
  | (k1, v1) :: r, (k2, s2) :: t, k, h, g => by
    simp only [List.map_cons, List.cons.injEq] at h
    obtain ⟨rfl, h⟩ := h
    cases g with
    | cons g1 g2 =>
      by_cases e : k1 = k
      · subst e
        exact .inr ⟨v1, s2, by simp [valV], by simp [findK], g1⟩
      · have e1 : valV ((k1, v1) :: r) k = valV r k := by simp [valV, List.find?_cons, e]
        have e2 : findK ((k1, s2) :: t) k = findK t k := by simp [findK, List.find?_cons, e]
        rw [e1, e2]
        exact kv_find k h g2
theorem any_keys {α β : Type} (k : Key) : ∀ {kvs : List (Key × α)} {es : List (Key × β)}, kvs.map (·.1) = es.map (·.1) → (kvs.any fun p => decide (p.1 = k)) = es.any fun p => decide (p.1 = k)
  | [], [], _ => rfl
  | [], _ :: _, h => by simp at h
  | _ :: _, [], h => by simp at h
  | (k1, v1) :: r, (k2, s2) :: t, h => by
    simp only [List.map_cons, List.cons.injEq] at h
    obtain ⟨rfl, h⟩ := h
    rw [List.any_cons, List.any_cons, any_keys k h]
theorem kv_map {F : Hp} (k : Key) (r : SvR K F ι v s) : ∀ {kvs : List (Key × V)} {es : List (Key × SV)}, kvs.map (·.1) = es.map (·.1) → SvAll K F ι (kvs.map (·.2)) (es.map (·.2)) →
    (kvs.map fun kv => if kv.1 = k then (kv.1, v) else kv).map (·.1) = (es.map fun p => if p.1 = k then (p.1, s) else p).map (·.1) ∧ SvAll K F ι ((kvs.map fun kv => if kv.1 = k then (kv.1, v) else kv).map (·.2)) ((es.map fun p => if p.1 = k then (p.1, s) else p).map (·.2))
  | [], [], _, _ => ⟨rfl, .nil⟩
  | [], _ :: _, h, _ => by simp at h
  | _ :: _, [], h, _ => by simp at h
  | (a, b) :: t, (a2, b2) :: t2, h, g => by
    simp only [List.map_cons, List.cons.injEq] at h
    cases g with
    | cons g1 g2 =>
      obtain ⟨i1, i2⟩ := kv_map k r h.2 g2
      have e : a = a2 := h.1
      subst e
      by_cases c : a = k
      · subst c
        simp only [List.map_cons, if_true]
        exact ⟨by rw [i1], .cons r i2⟩
      · simp only [List.map_cons, if_neg c]
        exact ⟨by rw [i1], .cons g1 i2⟩
theorem kv_put {F : Hp} {kvs : List (Key × V)} {es : List (Key × SV)} (k : Key) (h : kvs.map (·.1) = es.map (·.1)) (g : SvAll K F ι (kvs.map (·.2)) (es.map (·.2))) (r : SvR K F ι v s) :
    (putK kvs k v).map (·.1) = (putS es k s).map (·.1) ∧ SvAll K F ι ((putK kvs k v).map (·.2)) ((putS es k s).map (·.2)) := by
  unfold putK putS
  rw [any_keys k h]
  split
  · exact kv_map k r h g
  · rw [List.map_append, List.map_append, List.map_append, List.map_append]
    exact ⟨by rw [h]; rfl, svAll_app g (.cons r .nil)⟩
theorem dkS_ok (R : Sto K W H ι st) (h : SvR K (fz H W ι) ι v s) {es : List (Key × SV)} (e : dkS st s = some es) :
    ∃ a kvs, v = .ref a ∧ Rd H a (.dK kvs) ∧ kvs.map (·.1) = es.map (·.1) ∧ SvAll K (fz H W ι) ι (kvs.map (·.2)) (es.map (·.2)) := by
  unfold dkS at e
  split at e
  · cases e
    cases (show Dr K (fz H W ι) v (.dk _) from h) with
    | dk g u k1 k2 =>
      rename_i a o kvs
      refine ⟨a, kvs, rfl, ?_, by rw [List.map_map]; exact k1, ?_⟩
      · have g' := (fz_of g).2.2
        unfold unl at u
        split at u
        · cases u; exact .inr ⟨_, g'⟩
        · cases u
        · subst u; exact .inl g'
      · rw [List.map_map]
        have := of_drAll (ι := ι) k2
        rw [List.map_map] at this
        exact this
  · split at e
    · rename_i e2
      cases e
      obtain ⟨a, h1, rfl, kvs, h3, h4, h5⟩ := R.r h e2
      exact ⟨a, kvs, rfl, .inl h3, h4, h5⟩
    · cases e
  · cases e
end

/-! ### d[k], and the items of sequences: one form -/
def cSub (fa fb : FE) : FE := fun δ st => (fa δ st).bind fun p => (fb δ p.2).bind fun q => match dkS q.2 p.1 with
  | some es => (keyOf q.1).bind fun k => (findK es k).bind fun s => some (s, q.2)
  | none => (dIx q.2 p.1 q.1).bind fun s => some (s, q.2)
section
variable {X : Cx} {a b o i e : Expr} {fa fb fo fi fe : FE} {pos pos' tpos : Pos}
theorem de_sub2 (hu : X.A.units + 1 < cLine) (ha : DE X a fa) (hb : DE X b fb) (hp : PlainIx b := by intro _ _; rfl) (hn : NoSl b := by intro _ _; rfl) : DE X (.Subscript a b pos) (cSub fa fb) := by
  have p1 := pe_ix (pos := pos) ix_seq ha.pe hb.pe hp
  have p2 := pe_dget (pos := pos) hu ha.pe hb.pe hn
  refine ⟨⟨fun pins s σ H Q I t => ?_⟩⟩
  obtain ⟨W, ι, δ, st, s, st', R, h, q⟩ := t
  obtain ⟨p, h1, h⟩ := Option.bind_eq_some_iff.mp h
  obtain ⟨p2', h2, h⟩ := Option.bind_eq_some_iff.mp h
  split at h
  · rename_i es he
    obtain ⟨k, h3, h⟩ := Option.bind_eq_some_iff.mp h
    obtain ⟨s', h4, h⟩ := Option.bind_eq_some_iff.mp h
    cases h
    refine p2.run pins _ σ H Q I ⟨W, ι, δ, st, p.1, p.2, R, h1, fun v H1 ι1 P1 R1 r1 => ⟨W, ι1, δ, p.2, p2'.1, p2'.2, R1, h2, fun v2 H2 ι2 P2 R2 r2 => ?_⟩⟩
    obtain ⟨d, kvs, rfl, g1, g2, g3⟩ := dkS_ok R2.sto (SvR.ps P2 r1) he
    have ek := keyOf_ok r2 h3
    rcases kv_find k g2 g3 with ⟨_, n⟩ | ⟨v3, s3, e1, e2, r3⟩
    · rw [n] at h4; cases h4
    · rw [e2] at h4
      cases h4
      exact ⟨d, v3, rfl, .inl ⟨kvs, k, g1, ek, e1.symm⟩, q v3 H2 ι2 (P1.trans P2) R2 r3⟩
  · obtain ⟨s', h4, h⟩ := Option.bind_eq_some_iff.mp h
    cases h
    refine p1.run pins _ σ H Q I (op_weak (g := dIx) os_ix ⟨W, ι, δ, st, s, p2'.2, R, ?_, q⟩)
    simp [cOp, h1, h2, h4]

/-! ### d[k] = v, d[k] += e -/
def dkAt (st : Store) : SV → Option (Nat × List (Key × SV))
  | .r n => match st[n]? with
    | some (.dk es) => some (n, es)
    | _ => none
  | _ => none
theorem dkAt_ok {st : Store} {s : SV} {n : Nat} {es : List (Key × SV)} (h : dkAt st s = some (n, es)) : s = .r n ∧ st[n]? = some (.dk es) := by
  unfold dkAt at h
  split at h
  · split at h
    · rename_i e; cases h; exact ⟨rfl, e⟩
    · cases h
  · cases h
/-- the order of Python: the value, the dict, the key -/
def cPut (fo fi fe : FE) : FS := fun δ st => (fe δ st).bind fun p => (fo δ p.2).bind fun q => (fi δ q.2).bind fun r => (dkAt r.2 q.1).bind fun l => (keyOf r.1).bind fun k =>
  if l.2.length < sizeLine then some (.nx, δ, r.2.set l.1 (.dk (putS l.2 k p.1))) else none
theorem ds_put (hu : X.A.units + 1 < cLine) (ho : DE X o fo) (hi : DE X i fi) (hv : DE X e fe) (hs : swapsWith e (some (.Subscript o i pos')) pos.line X.env = pure false := by rfl) : DS X (.Assign [.Subscript o i pos'] e pos) (cPut fo fi fe) := by
  refine ⟨PS_weak (ps_dput hu ho.pe hi.pe hv.pe hs) ?_⟩
  rintro D σ H ⟨W, ι, δ, st, o, δ', st', R, h, q⟩
  obtain ⟨p, h1, h⟩ := Option.bind_eq_some_iff.mp h
  obtain ⟨p2, h2, h⟩ := Option.bind_eq_some_iff.mp h
  obtain ⟨p3, h3, h⟩ := Option.bind_eq_some_iff.mp h
  obtain ⟨⟨n, es⟩, h4, h⟩ := Option.bind_eq_some_iff.mp h
  obtain ⟨k, h5, h⟩ := Option.bind_eq_some_iff.mp h
  split at h
  case isFalse => cases h
  rename_i hz
  have hz : es.length < sizeLine := hz
  cases h
  obtain ⟨e1, e2⟩ := dkAt_ok h4
  refine ⟨W, ι, δ, st, p.1, p.2, R, h1, fun v1 H1 ι1 P1 R1 r1 => ⟨W, ι1, δ, p.2, p2.1, p2.2, R1, h2, fun v2 H2 ι2 P2 R2 r2 => ⟨W, ι2, δ, p2.2, p3.1, p3.2, R2, h3, fun v3 H3 ι3 P3 R3 r3 => ?_⟩⟩⟩
  have r2' := SvR.ps P3 r2
  rw [e1] at r2'
  obtain ⟨a, ha, rfl, kvs, g1, g2, g3⟩ := R3.sto.r r2' e2
  have r1' := SvR.ps P3 (SvR.ps P2 r1)
  have ek := keyOf_ok r3 h5
  have hl : kvs.length = es.length := by simpa using congrArg List.length g2
  obtain ⟨P4, S4⟩ := sto_set (o := .dk (putS es k p.1)) (u := .dK (putK kvs k v1)) R3.sto ha ⟨_, upd_same, kv_put k g2 g3 r1'⟩
  exact ⟨a, _, rfl, .inl ⟨kvs, k, g1, ek, by omega, rfl⟩, q σ _ ι3 (((P1.trans P2).trans P3).trans P4) (R3.move P4 S4)⟩
def cDAug (fo fi fe : FE) : FS := fun δ st => (fo δ st).bind fun p => (fi δ p.2).bind fun q => (dkAt q.2 p.1).bind fun l => (keyOf q.1).bind fun k => (findK l.2 k).bind fun s => (fe δ q.2).bind fun r => (dkAt r.2 p.1).bind fun l' =>
  (gAddI s r.1).bind fun z => if l'.2.length < sizeLine then some (.nx, δ, r.2.set l'.1 (.dk (putS l'.2 k z))) else none
theorem ds_daug (hu : X.A.units + 1 < cLine) (ho : DE X o fo) (hi : DE X i fi) (hv : DE X e fe)
    (ha : ∀ ov iv new, augStore i ov iv new = (do holding [new, ov, iv] (setItem ov iv new); release [new, ov, iv] []; pure .next) := by intros; rfl) : DS X (.AugAssign (.Subscript o i tpos) .Add e pos) (cDAug fo fi fe) := by
  refine ⟨PS_weak (ps_daug hu ho.pe hi.pe hv.pe in_add ha) ?_⟩
  rintro D σ H ⟨W, ι, δ, st, o, δ', st', R, h, q⟩
  obtain ⟨p, h1, h⟩ := Option.bind_eq_some_iff.mp h
  obtain ⟨p2, h2, h⟩ := Option.bind_eq_some_iff.mp h
  obtain ⟨⟨n, es⟩, h3, h⟩ := Option.bind_eq_some_iff.mp h
  obtain ⟨k, h4, h⟩ := Option.bind_eq_some_iff.mp h
  obtain ⟨s1, h5, h⟩ := Option.bind_eq_some_iff.mp h
  obtain ⟨p6, h6, h⟩ := Option.bind_eq_some_iff.mp h
  obtain ⟨⟨n', es'⟩, h7, h⟩ := Option.bind_eq_some_iff.mp h
  obtain ⟨z, h8, h⟩ := Option.bind_eq_some_iff.mp h
  split at h
  case isFalse => cases h
  rename_i hz
  have hz : es'.length < sizeLine := hz
  cases h
  obtain ⟨e1, e2⟩ := dkAt_ok h3
  obtain ⟨e3, e4⟩ := dkAt_ok h7
  have hn : n' = n := by rw [e1] at e3; cases e3; rfl
  subst hn
  refine ⟨W, ι, δ, st, p.1, p.2, R, h1, fun v1 H1 ι1 P1 R1 r1 => ⟨W, ι1, δ, p.2, p2.1, p2.2, R1, h2, fun v2 H2 ι2 P2 R2 r2 => ?_⟩⟩
  have r1' := SvR.ps P2 r1
  rw [e1] at r1'
  obtain ⟨a, ha, rfl, kvs, g1, g2, g3⟩ := R2.sto.r r1' e2
  have ek := keyOf_ok r2 h4
  rcases kv_find k g2 g3 with ⟨_, n⟩ | ⟨v3, s3, f1, f2, r3⟩
  · rw [n] at h5; cases h5
  · rw [f2] at h5
    cases h5
    refine ⟨a, v3, rfl, .inl ⟨kvs, k, .inl g1, ek, f1.symm⟩, W, ι2, δ, p2.2, p6.1, p6.2, R2, h6, fun v6 H6 ι6 P6 R6 r6 => ?_⟩
    obtain ⟨i1, i2, q1, q2, q3⟩ := gAddI_ok h8
    rw [q1] at r3
    rw [q2] at r6
    rw [q3] at q
    refine ⟨i1, i2, dr_int r3, dr_int r6, ?_⟩
    obtain ⟨kvs', g4, g5, g6⟩ := R6.sto.mo _ _ a e4 (pre_get P6.pre ha)
    have hl : kvs'.length = es'.length := by simpa using congrArg List.length g5
    obtain ⟨P7, S7⟩ := sto_set (o := .dk (putS es' k (.d (.int (i1 + i2))))) (u := .dK (putK kvs' k (.int (i1 + i2)))) R6.sto (pre_get P6.pre ha) ⟨_, upd_same, kv_put k g5 g6 (svi _)⟩
    exact ⟨_, .inl ⟨kvs', k, g4, ek, by omega, rfl⟩, q σ _ ι6 (((P1.trans P2).trans P6).trans P7) (R6.move P7 S7)⟩
end

/-! ### {k: v, ..} -/
def FPs := Env → Store → Option (List (SV × SV) × Store)
def cPs0 : FPs := fun _ st => some ([], st)
def cPs1 (fk fv : FE) (r : FPs) : FPs := fun δ st => (fk δ st).bind fun p => (fv δ p.2).bind fun q => (r δ q.2).bind fun t => some ((p.1, q.1) :: t.1, t.2)
def keysOf : List (SV × SV) → Option (List (Key × SV))
  | [] => some []
  | (k, s) :: r => (keyOf k).bind fun k' => (keysOf r).map ((k', s) :: ·)
def mergeS (es more : List (Key × SV)) : List (Key × SV) := more.foldl (fun acc p => putS acc p.1 p.2) es
def cDisp (f : FPs) : FE := fun δ st => (f δ st).bind fun p => (keysOf p.1).bind fun es => some (.r p.2.length, p.2 ++ [.dk (mergeS [] es)])
abbrev SPs (K : PySem.W.Frag) (F : Hp) (ι : List Addr) : List (V × V) → List (SV × SV) → Prop := Paired fun p q => SvR K F ι p.1 q.1 ∧ SvR K F ι p.2 q.2
structure DPs (X : Cx) (pos : Pos) (keys : List (Option Expr)) (values : List Expr) (f : FPs) : Prop where
  ex : ∃ trs, PPs X pos keys values trs ∧ ∀ W σ H ι δ st p Q, Rl X.K W σ H ι δ st → f δ st = some p →
    (∀ ps H' ι', Ps H ι H' ι' → Rl X.K W σ H' ι' δ p.2 → SPs X.K (fz H' W ι') ι' ps p.1 → Q ps H') → tPairs trs σ H Q
  len : ∀ δ st p, f δ st = some p → p.1.length = keys.length
section
variable {X : Cx} {pos : Pos}
theorem dps_nil : DPs X pos [] [] cPs0 := ⟨⟨[], pps_nil, fun W σ H ι δ st p Q R h q => by cases h; exact q [] H ι (Ps.refl _ _) R .nil⟩, fun δ st p h => by cases h; rfl⟩
theorem dps_cons {k v : Expr} {ks : List (Option Expr)} {vs : List Expr} {fk fv : FE} {r : FPs} (hk : DE X k fk) (hv : DE X v fv) (hr : DPs X pos ks vs r) : DPs X pos (some k :: ks) (v :: vs) (cPs1 fk fv r) := by
  obtain ⟨⟨trs, pp, w⟩, hl⟩ := hr
  refine ⟨⟨_, pps_cons hk.pe hv.pe pp, fun W σ H ι δ st p Q R h q => ?_⟩, fun δ st p h => ?_⟩
  · obtain ⟨p1, h1, h⟩ := Option.bind_eq_some_iff.mp h
    obtain ⟨p2, h2, h⟩ := Option.bind_eq_some_iff.mp h
    obtain ⟨p3, h3, h⟩ := Option.bind_eq_some_iff.mp h
    cases h
    refine ⟨W, ι, δ, st, p1.1, p1.2, R, h1, fun v1 H1 ι1 P1 R1 r1 => ⟨W, ι1, δ, p1.2, p2.1, p2.2, R1, h2, fun v2 H2 ι2 P2 R2 r2 => ?_⟩⟩
    refine w W σ H2 ι2 δ p2.2 p3 _ R2 h3 fun ps H3 ι3 P3 R3 r3 => ?_
    exact q _ H3 ι3 ((P1.trans P2).trans P3) R3 (.cons ⟨SvR.ps P3 (SvR.ps P2 r1), SvR.ps P3 r2⟩ r3)
  · obtain ⟨p1, h1, h⟩ := Option.bind_eq_some_iff.mp h
    obtain ⟨p2, h2, h⟩ := Option.bind_eq_some_iff.mp h
    obtain ⟨p3, h3, h⟩ := Option.bind_eq_some_iff.mp h
    cases h
    simp [hl _ _ _ h3]
theorem keys_ok {K : PySem.W.Frag} {F : Hp} {ι : List Addr} : ∀ {ps : List (V × V)} {qs : List (SV × SV)} {es : List (Key × SV)}, SPs K F ι ps qs → keysOf qs = some es →
    ∃ kvs : List (Key × V), ps = kvs.map (fun kv => (kV kv.1, kv.2)) ∧ kvs.map (·.1) = es.map (·.1) ∧ SvAll K F ι (kvs.map (·.2)) (es.map (·.2)) ∧ kvs.length = qs.length
  | _, [], es, .nil, e => by cases e; exact ⟨[], rfl, rfl, .nil, rfl⟩
  | p :: _, (k, s) :: r, es, .cons h t, e => by
    obtain ⟨k', e1, e⟩ := Option.bind_eq_some_iff.mp e
    obtain ⟨es2, e2, e3⟩ := Option.map_eq_some_iff.mp e
    subst e3
    obtain ⟨kvs, g1, g2, g3, g4⟩ := keys_ok t e2
    have ek : p.1 = kV k' := keyOf_ok h.1 e1
    exact ⟨(k', p.2) :: kvs, by rw [g1, List.map_cons, ← ek], by simp [g2], .cons h.2 g3, by simp [g4]⟩
theorem merge_ok {K : PySem.W.Frag} {F : Hp} {ι : List Addr} : ∀ {kvs : List (Key × V)} {es : List (Key × SV)} {acc : List (Key × V)} {acc2 : List (Key × SV)}, kvs.map (·.1) = es.map (·.1) → SvAll K F ι (kvs.map (·.2)) (es.map (·.2)) →
    acc.map (·.1) = acc2.map (·.1) → SvAll K F ι (acc.map (·.2)) (acc2.map (·.2)) → (mergeK acc kvs).map (·.1) = (mergeS acc2 es).map (·.1) ∧ SvAll K F ι ((mergeK acc kvs).map (·.2)) ((mergeS acc2 es).map (·.2))
  | [], [], acc, acc2, _, _, h, g => ⟨h, g⟩
  | [], _ :: _, _, _, h, _, _, _ => by simp at h
  | _ :: _, [], _, _, h, _, _, _ => by simp at h
  | (k1, v1) :: r, (k2, s2) :: t, acc, acc2, h, g, h2, g2 => by
    simp only [List.map_cons, List.cons.injEq] at h
    obtain ⟨rfl, h⟩ := h
    cases g with
    | cons g3 g4 =>
      obtain ⟨a, b⟩ := kv_put k1 h2 g2 g3
      exact merge_ok (kvs := r) (es := t) (acc := putK acc k1 v1) (acc2 := putS acc2 k1 s2) h g4 a b
theorem de_disp {keys : List (Option Expr)} {values : List Expr} {f : FPs} (h : DPs X pos keys values f) (hall : keys.all (·.isSome) = true := by rfl) (hl : keys.length = values.length := by rfl) (h0 : keys ≠ [] := by simp)
    (h15 : keys.length ≤ 15 := by decide) : DE X (.Dict keys values pos) (cDisp f) := by
  obtain ⟨⟨trs, pp, w⟩, hlen⟩ := h
  refine ⟨PE_weak (pe_disp pp hall hl h0 h15) ?_⟩
  rintro σ H Q ⟨W, ι, δ, st, s, st', R, e, q⟩ a ha
  obtain ⟨p, h1, e⟩ := Option.bind_eq_some_iff.mp e
  obtain ⟨es, h2, e⟩ := Option.bind_eq_some_iff.mp e
  cases e
  obtain ⟨hDW, hDι⟩ := R.fresh ha
  have R1 : Rl X.K (plus W a) σ (upd H a (.dK [])) ι δ st := by
    refine R.swap (le_hide ha (same_upd ha)) (fun b hb => upd_ne fun e => hDι (e ▸ hb)) (fun b hb z => z.elim (R.sto.wd b hb) fun e => hDι (e ▸ hb)) (fun b hb => ?_)
    by_cases e : b = a
    · subst e; rw [upd_same]; simp
    · rw [upd_ne e]; exact R.sto.wn b (hb.resolve_right e)
  refine w (plus W a) σ _ ι δ st p _ R1 h1 fun ps H2 ι2 P2 R2 r2 => ?_
  have han : a ∉ ι2 := fun z => R2.sto.wd a z (.inr rfl)
  have hd : H2 a = some (.dK []) := P2.keep _ _ (fun z => hDι z) upd_same
  obtain ⟨kvs, g1, g2, g3, g4⟩ := keys_ok r2 h2
  refine ⟨hd, kvs, g1, by rw [g4, hlen _ _ _ h1]; exact h15, ?_⟩
  obtain ⟨m1, m2⟩ := merge_ok (acc := []) (acc2 := []) g2 g3 rfl .nil
  -- the dict goes into the store
  have P3 : Ps H ι (upd H2 a (.dK (mergeK [] kvs))) (ι2 ++ [a]) := by
    refine ⟨fun b o hb hbo => ?_, fun b hb => ?_, fun b hb => ?_, P2.pre.trans ⟨[a], rfl⟩⟩
    · have hne : b ≠ a := fun e => by subst e; rw [ha] at hbo; cases hbo
      rw [upd_ne hne]
      exact P2.keep b o hb (by rw [upd_ne hne]; exact hbo)
    · by_cases e : b = a
      · subst e; rw [upd_same]; simp
      · rw [upd_ne e]; exact P2.dom b (by rw [upd_ne e]; exact hb)
    · rcases List.mem_append.mp hb with h | h
      · by_cases e : b = a
        · subst e; exact .inr ha
        · have := P2.new b h
          rw [upd_ne e] at this
          exact this
      · simp at h; subst h; exact .inr ha
  have l1 : Le (fz H2 (plus W a) ι2) (fz (upd H2 a (.dK (mergeK [] kvs))) W (ι2 ++ [a])) := fun b o h => by
    obtain ⟨b1, b2, b3⟩ := fz_of h
    have hne : b ≠ a := fun e => b1 (.inr e)
    refine ⟨o, ?_, rfl⟩
    rw [fz_at (fun z => b1 (.inl z)) (fun z => by
      rcases List.mem_append.mp z with z | z
      · exact b2 z
      · simp at z; exact hne z), upd_ne hne]
    exact b3
  have sl : ∀ {v s}, SvR X.K (fz H2 (plus W a) ι2) ι2 v s → SvR X.K (fz (upd H2 a (.dK (mergeK [] kvs))) W (ι2 ++ [a])) (ι2 ++ [a]) v s := fun r => r.le' l1 ⟨[a], rfl⟩
  have R3 : Rl X.K W σ (upd H2 a (.dK (mergeK [] kvs))) (ι2 ++ [a]) δ (p.2 ++ [.dk (mergeS [] es)]) := by
    refine ⟨⟨?_, by simp [R2.sto.len], ?_, fun b hb => ?_, fun n u b h1 h2 => ?_⟩, R2.len, fun i s h => ?_⟩
    · rw [List.nodup_append]
      refine ⟨R2.sto.nd, by simp, fun x hx y hy e => ?_⟩
      simp at hy
      subst hy e
      exact han hx
    · intro b hb
      rcases List.mem_append.mp hb with h | h
      · exact fun z => R2.sto.wd b h (.inl z)
      · simp at h; subst h; exact hDW
    · by_cases e : b = a
      · subst e; rw [upd_same]; simp
      · rw [upd_ne e]; exact R2.sto.wn b (.inl hb)
    · by_cases hn : n < p.2.length
      · rw [List.getElem?_append_left hn] at h1
        rw [List.getElem?_append_left (by rw [R2.sto.len]; exact hn)] at h2
        have hne : b ≠ a := fun e => han (e ▸ List.mem_of_getElem? h2)
        exact (R2.sto.mo n u b h1 h2).mono l1 ⟨[a], rfl⟩ fun x hx => by rw [upd_ne hne]; exact hx
      · have hl : n < p.2.length + 1 := by
          have := (List.getElem?_eq_some_iff.mp h1).1
          simpa using this
        have e : n = p.2.length := by omega
        subst e
        rw [List.getElem?_append_right (Nat.le_refl _)] at h1
        rw [List.getElem?_append_right (by rw [R2.sto.len]; exact Nat.le_refl _)] at h2
        simp [R2.sto.len] at h1 h2
        subst h1 h2
        exact ⟨_, upd_same, m1, L2.Paired.mapP m2 fun v s r => sl r⟩
    · obtain ⟨v, h1, h2⟩ := R2.sl i s h
      exact ⟨v, h1, sl h2⟩
  refine q _ _ (ι2 ++ [a]) P3 R3 ⟨a, ?_, rfl⟩
  rw [← R2.sto.len, List.getElem?_append_right (Nat.le_refl _)]
  simp
end
end DL

set_option maxHeartbeats 1000000
/-! DW: what a def stands on. -/
namespace DL
open PySem PySem.Spec L2
structure Def (K : PySem.W.Frag) (mg : Str → Option Value) (x : Str) (st : Stmt) (ps : List Str) (f : Addr) (fd : FuncData) : Prop where
  fn : Fun K x x st f fd
  bd : Binds K fd ps []
  gl : mg x = some (.ref f)
theorem hu64 {A : Around} {k : Nat} (hr : Room k A) : A.units + 64 < cLine := by have := hr.un; omega
theorem hu65 {A : Around} {k : Nat} (hr : Room k A) : A.units + 65 < cLine := by have := hr.un; omega
theorem fn_none {P : Program} {w : World} {K : PySem.W.Frag} {mg : Str → Option Value} {base : Heap} {k : Nat} {f : Addr} {fd : FuncData} {ps : List Str} : FnD P w K mg base k f fd ps (fun _ _ => none) :=
  ⟨fun vs H Q E h => h.1, fun A outer s H args us vs Q E hr he hb hv hs => by
    obtain ⟨_, W, ι, st, ss, z, st', _, _, e, _⟩ := hs
    cases e⟩
theorem def_mk {K : PySem.W.Frag} {h : Heap} {mg : Str → Option Value} {x : Str} {st : Stmt} {ps : List Str} {f : Addr} {od an : Option Addr} {sl : Array (Option Value)} {oc kV dc pm cd ct : Value} (X : K.In h) (G : h.Ns mainGlobals mg)
    (a : PySem.W.nsIn K mainGlobals x = some (some (.ref f))) (l : K.lookup f = some ⟨oc, od, .func (PySem.W.fnOf x x (defArgs st) (defBody st) (defScope st) .none kV dc pm an cd ct), sl⟩) (c : PySem.W.codeIn K cd x = true) (k : PySem.W.keepIn K (.ref f) = true)
    (hb : ∀ (kV dc pm : Value) (an : Option Addr) (cd ct : Value) (us : List Value), us.length = ps.length → bindArgs (PySem.W.fnOf x x (defArgs st) (defBody st) (defScope st) .none kV dc pm an cd ct) ⟨us, []⟩ = pure (ps.zip us)) :
    Def K mg x st ps f (PySem.W.fnOf x x (defArgs st) (defBody st) (defScope st) .none kV dc pm an cd ct) :=
  ⟨fun_mk l c k, (fun_mk (st := st) l c k).binds hb, PySem.W.mg_of X G a⟩
theorem fz_nil (H : Hp) : fz H (fun _ => False) [] = H := by
  funext b
  exact fz_at (fun h => h) (by simp)
theorem sp_end {K : PySem.W.Frag} {F : List SV → Store → Option (SV × Store)} {H : Hp} {a : Addr} {ns : List Int} {E : XK} (hS : SqL K H a (ns.map V.int)) (e : F [.d (.scr ns)] [] = some (.d (.bl true), [])) : spM K 1 F [.ref a] H (fun v _ => v = .bl true) E := by
  refine ⟨rfl, fun _ => False, [], [], [.d (.scr ns)], .d (.bl true), [], ⟨List.nodup_nil, rfl, fun _ h => (nomatch h), fun _ h => False.elim h, fun n o a h1 h2 => (nomatch h1)⟩, .cons ?_ .nil, e, fun v H' _ _ r => ?_⟩
  · rw [fz_nil]
    exact Dr.scr hS
  · cases (show Dr K _ v (.bl true) from r)
    rfl
end DL

set_option maxHeartbeats 1000000
/-! DV: to evaluate the mirrors. -/
namespace DL
open PySem PySem.Spec L2

def Run {α : Type} (x : Option α) (Q : α → Prop) : Prop := ∃ a, x = some a ∧ Q a
section
variable {α β : Type} {x : Option α} {f : α → Option β} {Q Q' : α → Prop} {R : β → Prop}
@[simp] theorem run_bind : Run (x.bind f) R ↔ Run x fun a => Run (f a) R := by
  constructor
  · rintro ⟨b, h, r⟩
    obtain ⟨a, h1, h2⟩ := Option.bind_eq_some_iff.mp h
    exact ⟨a, h1, b, h2, r⟩
  · rintro ⟨a, h1, b, h2, r⟩
    exact ⟨b, Option.bind_eq_some_iff.mpr ⟨a, h1, h2⟩, r⟩
@[simp] theorem run_some {a : α} : Run (some a) Q ↔ Q a := ⟨fun ⟨b, h, q⟩ => by cases h; exact q, fun q => ⟨a, rfl, q⟩⟩
@[simp] theorem run_none : Run (none : Option α) Q ↔ False := ⟨fun ⟨b, h, q⟩ => (nomatch h), False.elim⟩
@[simp] theorem run_map {g : α → β} : Run (x.map g) R ↔ Run x fun a => R (g a) := by
  cases x <;> simp
theorem Run.mono (h : Run x Q) (i : ∀ a, Q a → Q' a) : Run x Q' := let ⟨a, e, q⟩ := h; ⟨a, e, i a q⟩
theorem Run.eq {a : α} (h : Run x fun b => b = a) : x = some a := let ⟨_, e, q⟩ := h; q ▸ e
theorem Run.of {a : α} (h : x = some a) (q : Q a) : Run x Q := ⟨a, h, q⟩
theorem run_ite {c : Prop} [Decidable c] {y z : Option α} (h1 : c → Run y Q) (h2 : ¬ c → Run z Q) : Run (if c then y else z) Q := by
  by_cases h : c
  · rw [if_pos h]; exact h1 h
  · rw [if_neg h]; exact h2 h
end

section
variable (δ : Env) (st : Store)
@[simp] theorem a_var (i : Nat) : cVar i δ st = (δ[i]?).bind fun o => o.bind fun s => some (s, st) := (rfl)
@[simp] theorem a_c (d : D) : cC d δ st = some (.d d, st) := (rfl)
@[simp] theorem a_op (g : Store → SV → SV → Option SV) (fa fb : FE) : cOp g fa fb δ st = (fa δ st).bind fun p => (fb δ p.2).bind fun q => (g q.2 p.1 q.1).bind fun s => some (s, q.2) := (rfl)
@[simp] theorem a_un (g : Store → SV → Option SV) (fa : FE) : cUn g fa δ st = (fa δ st).bind fun p => (g p.2 p.1).bind fun s => some (s, p.2) := (rfl)
@[simp] theorem a_chain (g g' : Store → SV → SV → Option SV) (fa fb fc : FE) : cChain g g' fa fb fc δ st = (fa δ st).bind fun p => (fb δ p.2).bind fun q => (g q.2 p.1 q.1).bind fun s =>
  match s with
  | .d (.bl true) => (fc δ q.2).bind fun u => (g' u.2 q.1 u.1).bind fun z => some (z, u.2)
  | .d (.bl false) => some (.d (.bl false), q.2)
  | _ => none := (rfl)
def tst (st : Store) : SV → Option (Bool × Store)
  | .d (.bl b) => some (b, st)
  | _ => none
@[simp] theorem tst_b (b : Bool) : tst st (.d (.bl b)) = some (b, st) := (rfl)
@[simp] theorem a_test (f : FE) : cTest f δ st = (f δ st).bind fun p => tst p.2 p.1 := by
  unfold cTest
  congr 1
@[simp] theorem a_and (t u : FT) : cAnd t u δ st = (t δ st).bind fun p => if p.1 = true then u δ p.2 else some (false, p.2) := (rfl)
@[simp] theorem a_or (t u : FT) : cOr t u δ st = (t δ st).bind fun p => if p.1 = true then some (true, p.2) else u δ p.2 := (rfl)
@[simp] theorem a_not (t : FT) : cNot t δ st = (t δ st).bind fun p => some (!p.1, p.2) := (rfl)
@[simp] theorem a_andV (f g : FE) : cAndV f g δ st = (f δ st).bind fun p => (tst p.2 p.1).bind fun b => if b.1 = true then g δ p.2 else some (.d (.bl false), p.2) := by
  unfold cAndV
  congr 1
  funext p
  obtain ⟨s, t⟩ := p
  cases s with
  | r n => rfl
  | d x => cases x with
    | bl b => cases b <;> rfl
    | _ => rfl
@[simp] theorem a_orV (f g : FE) : cOrV f g δ st = (f δ st).bind fun p => (tst p.2 p.1).bind fun b => if b.1 = true then some (.d (.bl true), p.2) else g δ p.2 := by
  unfold cOrV
  congr 1
  funext p
  obtain ⟨s, t⟩ := p
  cases s with
  | r n => rfl
  | d x => cases x with
    | bl b => cases b <;> rfl
    | _ => rfl
@[simp] theorem a_notV (f : FE) : cNotV f δ st = (f δ st).bind fun p => (tst p.2 p.1).bind fun b => some (.d (.bl (!b.1)), p.2) := by
  unfold cNotV
  congr 1
  funext p
  obtain ⟨s, t⟩ := p
  cases s with
  | r n => rfl
  | d x => cases x <;> rfl
@[simp] theorem a_if (t : FT) (f g : FE) : cIf t f g δ st = (t δ st).bind fun p => if p.1 = true then f δ p.2 else g δ p.2 := (rfl)
@[simp] theorem a_nil : cNil δ st = some ([], st) := (rfl)
@[simp] theorem a_cons (f : FE) (fs : FA) : cCons f fs δ st = (f δ st).bind fun p => (fs δ p.2).bind fun q => some (p.1 :: q.1, q.2) := (rfl)
@[simp] theorem a_tup (fs : FA) : cTup fs δ st = (fs δ st).bind fun p => (dataAll p.1).bind fun ds => some (.d (.tup ds), p.2) := (rfl)
@[simp] theorem a_lst (fs : FA) : cLst fs δ st = (fs δ st).bind fun p => (dataAll p.1).bind fun ds => some (.d (.lst ds), p.2) := (rfl)
@[simp] theorem a_new (fs : FA) : cNew fs δ st = (fs δ st).bind fun p => some (.r p.2.length, p.2 ++ [.lst p.1]) := (rfl)
@[simp] theorem a_fn (g : Store → List SV → Option SV) (fs : FA) : cFn g fs δ st = (fs δ st).bind fun p => (g p.2 p.1).bind fun s => some (s, p.2) := (rfl)
@[simp] theorem a_isi (T : String) (f : FE) : cIsi T f δ st = (f δ st).bind fun p => (tyS p.2 p.1).bind fun a => some (.d (.bl (isTy T a)), p.2) := (rfl)
@[simp] theorem a_call (F : List SV → Store → Option (SV × Store)) (fs : FA) : cCall F fs δ st = (fs δ st).bind fun p => callM F p.1 p.2 := (rfl)
def asI (st : Store) : SV → Option (Option Int × Store)
  | .d (.int i) => some (some i, st)
  | _ => none
@[simp] theorem asI_i (i : Int) : asI st (.d (.int i)) = some (some i, st) := (rfl)
@[simp] theorem a_part (f : FE) : cPart f δ st = (f δ st).bind fun p => asI p.2 p.1 := by
  unfold cPart
  congr 1
@[simp] theorem a_noPart : cNoPart δ st = some (none, st) := (rfl)
@[simp] theorem a_cut (f : FE) (l h : Env → Store → Option (Option Int × Store)) : cCut f l h δ st = (f δ st).bind fun p => (l δ p.2).bind fun q => (h δ q.2).bind fun r => (dCut r.2 p.1 q.1 r.1).bind fun s => some (s, r.2) := (rfl)
@[simp] theorem a_app (fo fe : FE) : cApp fo fe δ st = (fo δ st).bind fun p => (lstAt p.2 p.1).bind fun _ => (fe δ p.2).bind fun q => (lstAt q.2 p.1).bind fun l => if l.2.length < sizeLine then some (.d .non, q.2.set l.1 (.lst (l.2 ++ [q.1]))) else none := (rfl)
@[simp] theorem a_ext (fo fe : FE) : cExt fo fe δ st = (fo δ st).bind fun p => (lstAt p.2 p.1).bind fun _ => (fe δ p.2).bind fun q => (lstAt q.2 p.1).bind fun l => (litems q.2 q.1).bind fun ds =>
  if l.2.length + ds.length ≤ sizeLine then some (.d .non, q.2.set l.1 (.lst (l.2 ++ ds.map .d))) else none := (rfl)
@[simp] theorem a_index (fo fe : FE) : cIndex fo fe δ st = (fo δ st).bind fun p => (idxKind p.2 p.1).bind fun _ => (fe δ p.2).bind fun q => (dIndex q.2 p.1 q.1).bind fun s => some (s, q.2) := (rfl)
@[simp] theorem a_sub (fa fb : FE) : cSub fa fb δ st = (fa δ st).bind fun p => (fb δ p.2).bind fun q => match dkS q.2 p.1 with
  | some es => (keyOf q.1).bind fun k => (findK es k).bind fun s => some (s, q.2)
  | none => (dIx q.2 p.1 q.1).bind fun s => some (s, q.2) := (rfl)
@[simp] theorem a_ps0 : cPs0 δ st = some ([], st) := (rfl)
@[simp] theorem a_ps1 (fk fv : FE) (r : FPs) : cPs1 fk fv r δ st = (fk δ st).bind fun p => (fv δ p.2).bind fun q => (r δ q.2).bind fun t => some ((p.1, q.1) :: t.1, t.2) := (rfl)
@[simp] theorem a_disp (f : FPs) : cDisp f δ st = (f δ st).bind fun p => (keysOf p.1).bind fun es => some (.r p.2.length, p.2 ++ [.dk (mergeS [] es)]) := (rfl)
@[simp] theorem a_lc (it : FI) (tg : FG) (tt : FT) (elt : FE) (vs : List Nat) : cLc it tg tt elt vs δ st = (it δ st).bind fun p => (lcL p.1 tg tt elt (wipeE δ vs) p.2.1 p.2.2 []).bind fun q => some (.d (.lst q.1), q.2) := (rfl)
@[simp] theorem a_tt : cTt δ st = some (true, st) := (rfl)
/-! statements -/
@[simp] theorem a_skip : cSkip δ st = some (.nx, δ, st) := (rfl)
def andThen (h : FS) : Out × Env × Store → Option (Out × Env × Store)
  | (.nx, δ, st) => h δ st
  | p => some p
@[simp] theorem andThen_nx (h : FS) : andThen h (.nx, δ, st) = h δ st := (rfl)
@[simp] theorem andThen_rt (h : FS) (s : SV) : andThen h (.rt s, δ, st) = some (.rt s, δ, st) := (rfl)
@[simp] theorem andThen_bk (h : FS) : andThen h (.bk, δ, st) = some (.bk, δ, st) := (rfl)
@[simp] theorem andThen_ct (h : FS) : andThen h (.ct, δ, st) = some (.ct, δ, st) := (rfl)
@[simp] theorem a_seq (g h : FS) : cSeq g h δ st = (g δ st).bind (andThen h) := by
  unfold cSeq
  congr 1
  funext p
  obtain ⟨o, d, s⟩ := p
  cases o <;> rfl
@[simp] theorem a_expr (f : FE) : cExpr f δ st = (f δ st).bind fun p => some (.nx, δ, p.2) := (rfl)
@[simp] theorem a_ret (f : FE) : cRet f δ st = (f δ st).bind fun p => some (.rt p.1, δ, p.2) := (rfl)
@[simp] theorem a_retN : cRetN δ st = some (.rt (.d .non), δ, st) := (rfl)
@[simp] theorem a_brk : cBrk δ st = some (.bk, δ, st) := (rfl)
@[simp] theorem a_cnt : cCnt δ st = some (.ct, δ, st) := (rfl)
@[simp] theorem a_ifS (t : FT) (g h : FS) : cIfS t g h δ st = (t δ st).bind fun p => if p.1 = true then g δ p.2 else h δ p.2 := (rfl)
@[simp] theorem a_set (i : Nat) (f : FE) : cSet i f δ st = (f δ st).bind fun p => some (.nx, δ.set i (some p.1), p.2) := (rfl)
@[simp] theorem a_aug (i : Nat) (g : SV → SV → Option SV) (f : FE) : cAug i g f δ st = (δ[i]?).bind fun o => o.bind fun s => (f δ st).bind fun p => (g s p.1).bind fun z => some (.nx, δ.set i (some z), p.2) := (rfl)
@[simp] theorem a_asg (g : FG) (f : FE) : cAsg g f δ st = (f δ st).bind fun p => (g p.2 p.1 δ).bind fun δ' => some (.nx, δ', p.2) := (rfl)
def two (δ : Env) (i j : Nat) (st : Store) : List SV → Option (Out × Env × Store)
  | [s, u] => some (.nx, (δ.set i (some s)).set j (some u), st)
  | _ => none
@[simp] theorem two_eq (i j : Nat) (s u : SV) : two δ i j st [s, u] = some (.nx, (δ.set i (some s)).set j (some u), st) := (rfl)
@[simp] theorem a_par (i j : Nat) (fs : FA) : cPar i j fs δ st = (fs δ st).bind fun p => two δ i j p.2 p.1 := by
  unfold cPar
  congr 1
@[simp] theorem a_put (fo fi fe : FE) : cPut fo fi fe δ st = (fe δ st).bind fun p => (fo δ p.2).bind fun q => (fi δ q.2).bind fun r => (dkAt r.2 q.1).bind fun l => (keyOf r.1).bind fun k =>
  if l.2.length < sizeLine then some (.nx, δ, r.2.set l.1 (.dk (putS l.2 k p.1))) else none := (rfl)
@[simp] theorem a_daug (fo fi fe : FE) : cDAug fo fi fe δ st = (fo δ st).bind fun p => (fi δ p.2).bind fun q => (dkAt q.2 p.1).bind fun l => (keyOf q.1).bind fun k => (findK l.2 k).bind fun s => (fe δ q.2).bind fun r => (dkAt r.2 p.1).bind fun l' =>
  (gAddI s r.1).bind fun z => if l'.2.length < sizeLine then some (.nx, δ, r.2.set l'.1 (.dk (putS l'.2 k z))) else none := (rfl)
@[simp] theorem a_for (it : FI) (tg : FG) (body : FS) : cFor it tg body δ st = (it δ st).bind fun p => forL p.1 tg body p.2.1 δ p.2.2 := (rfl)
@[simp] theorem a_scoped (g : FS) : cScoped g δ st = (g δ st).bind fun p => (frzO st.length p.2.2 p.1).bind fun o => (frzE st.length p.2.2 p.2.1).bind fun δ' => if (p.2.2.take st.length).all (moB st.length) = true then some (o, δ', p.2.2.take st.length) else none := (rfl)
@[simp] theorem frzO_nx (m : Nat) : frzO m st .nx = some .nx := (rfl)
@[simp] theorem frzO_bk (m : Nat) : frzO m st .bk = some .bk := (rfl)
@[simp] theorem frzO_ct (m : Nat) : frzO m st .ct = some .ct := (rfl)
@[simp] theorem frzO_rt (m : Nat) (s : SV) : frzO m st (.rt s) = (frzS m st s).map .rt := (rfl)
@[simp] theorem frzS_d (m : Nat) (x : D) : frzS m st (.d x) = some (.d x) := (rfl)
@[simp] theorem frzS_r (m n : Nat) : frzS m st (.r n) = if n < m then some (.r n) else (toD st (.r n)).map .d := (rfl)
@[simp] theorem frzE_nil (m : Nat) : frzE m st [] = some [] := (rfl)
@[simp] theorem frzE_none (m : Nat) (r : Env) : frzE m st (none :: r) = (frzE m st r).map (none :: ·) := (rfl)
@[simp] theorem frzE_some (m : Nat) (s : SV) (r : Env) : frzE m st (some s :: r) = (frzS m st s).bind fun s' => (frzE m st r).map (some s' :: ·) := (rfl)
/-! targets, what is walked -/
@[simp] theorem a_gN (i : Nat) (s : SV) : gN i st s δ = some (δ.set i (some s)) := (rfl)
@[simp] theorem a_gsNil : gsNil st [] δ = some δ := (rfl)
@[simp] theorem a_gsCons (g : FG) (gs : Store → List SV → Env → Option Env) (s : SV) (r : List SV) : gsCons g gs st (s :: r) δ = (g st s δ).bind fun δ1 => gs st r δ1 := (rfl)
@[simp] theorem a_gTp (n : Nat) (gs : Store → List SV → Env → Option Env) (ds : List D) : gTp n gs st (.d (.tup ds)) δ = if ds.length = n then gs st (ds.map .d) δ else none := (rfl)
def asStr (st : Store) : SV → Option ((Store → Option Unit) × List SV × Store)
  | .d (.str s) => some (cYes, s.map fun c => .d (.str [c]), st)
  | _ => none
@[simp] theorem asStr_s (s : List Nat) : asStr st (.d (.str s)) = some (cYes, s.map fun c => .d (.str [c]), st) := (rfl)
@[simp] theorem a_strI (f : FE) : cStrI f δ st = (f δ st).bind fun p => asStr p.2 p.1 := by
  unfold cStrI
  congr 1
def asRng (st : Store) : SV → Option ((Store → Option Unit) × List SV × Store)
  | .d (.int j) => if inR j = true then some (cYes, rngL 0 j.toNat, st) else none
  | _ => none
@[simp] theorem asRng_i (j : Int) : asRng st (.d (.int j)) = if inR j = true then some (cYes, rngL 0 j.toNat, st) else none := (rfl)
@[simp] theorem a_rng1 (f : FE) : cRng1 f δ st = (f δ st).bind fun p => asRng p.2 p.1 := by
  unfold cRng1
  congr 1
def asRng2 (st : Store) : SV → SV → Option ((Store → Option Unit) × List SV × Store)
  | .d (.int i), .d (.int j) => if inR i = true ∧ inR j = true then some (cYes, rngL i (j - i).toNat, st) else none
  | _, _ => none
@[simp] theorem asRng2_i (i j : Int) : asRng2 st (.d (.int i)) (.d (.int j)) = if inR i = true ∧ inR j = true then some (cYes, rngL i (j - i).toNat, st) else none := (rfl)
@[simp] theorem a_rng2 (f g : FE) : cRng2 f g δ st = (f δ st).bind fun p => (g δ p.2).bind fun q => asRng2 q.2 p.1 q.1 := by
  unfold cRng2
  congr 1
noncomputable def chkOf (st : Store) : SV → Store → Option Unit
  | .r n => cStay n st[n]?
  | _ => cYes
@[simp] theorem chkOf_d (x : D) : chkOf st (.d x) = cYes := (rfl)
@[simp] theorem a_seqI (f : FE) : cSeqI f δ st = (f δ st).bind fun p => (items p.2 p.1).bind fun ss => some (chkOf p.2 p.1, ss, p.2) := by
  unfold cSeqI
  congr 1
@[simp] theorem a_cYes : cYes st = some () := (rfl)
/-! values -/
@[simp] theorem items_tup (ds : List D) : items st (.d (.tup ds)) = some (ds.map .d) := (rfl)
@[simp] theorem items_lst (ds : List D) : items st (.d (.lst ds)) = some (ds.map .d) := (rfl)
@[simp] theorem litems_lst (ds : List D) : litems st (.d (.lst ds)) = some ds := (rfl)
@[simp] theorem ditems_tup (ds : List D) : ditems st (.d (.tup ds)) = some ds := by unfold ditems; simp [dataAll_map]
@[simp] theorem ditems_lst (ds : List D) : ditems st (.d (.lst ds)) = some ds := by unfold ditems; simp [dataAll_map]
@[simp] theorem toD_d (x : D) : toD st (.d x) = some x := (rfl)
@[simp] theorem dataAll_nil : dataAll [] = some [] := (rfl)
@[simp] theorem dataAll_cons (x : D) (r : List SV) : dataAll (.d x :: r) = (dataAll r).map (x :: ·) := (rfl)
@[simp] theorem dataAll_mapd (ds : List D) : dataAll (ds.map SV.d) = some ds := dataAll_map ds
@[simp] theorem asD_d (x : D) : asD (.d x) = some x := (rfl)
end
/-! data -/
section
variable (st : Store)
@[simp] theorem v_ii (C : Int → Int → Bool) (g : Int → Int → D) (a b : Int) : dII C g st (.d (.int a)) (.d (.int b)) = if C a b = true then some (.d (g a b)) else none := (rfl)
@[simp] theorem v_addI (a b : Int) : dAdd st (.d (.int a)) (.d (.int b)) = some (.d (.int (a + b))) := (rfl)
@[simp] theorem v_addS (a b : List Nat) : dAdd st (.d (.str a)) (.d (.str b)) = if a.length + b.length ≤ sizeLine then some (.d (.str (a ++ b))) else none := (rfl)
@[simp] theorem v_addT (a b : List D) : dAdd st (.d (.tup a)) (.d (.tup b)) = if a.length + b.length ≤ sizeLine then some (.d (.tup (a ++ b))) else none := (rfl)
@[simp] theorem v_addL (a b : List D) : dAdd st (.d (.lst a)) (.d (.lst b)) = if a.length + b.length ≤ sizeLine then some (.d (.lst (a ++ b))) else none := (rfl)
@[simp] theorem v_neg (a : Int) : dNeg st (.d (.int a)) = some (.d (.int (-a))) := (rfl)
@[simp] theorem v_ltI (a b : Int) : dLt st (.d (.int a)) (.d (.int b)) = some (.d (.bl (decide (a < b)))) := (rfl)
@[simp] theorem v_ltS (a b : List Nat) : dLt st (.d (.str a)) (.d (.str b)) = some (.d (.bl (decide (a < b)))) := (rfl)
@[simp] theorem v_eq (a b : D) : dEq st (.d a) (.d b) = if eqOk 30 a = true ∧ eqOk 30 b = true then some (.d (.bl (D.eqv a b))) else none := (rfl)
@[simp] theorem v_ne (a b : D) : dNe st (.d a) (.d b) = if eqOk 30 a = true ∧ eqOk 30 b = true then some (.d (.bl (!D.eqv a b))) else none := (rfl)
@[simp] theorem v_inS (c : Nat) (z : List Nat) : dIn st (.d (.str [c])) (.d (.str z)) = some (.d (.bl (decide (c ∈ z)))) := (rfl)
@[simp] theorem v_notInS (c : Nat) (z : List Nat) : dNotIn st (.d (.str [c])) (.d (.str z)) = some (.d (.bl (!decide (c ∈ z)))) := (rfl)
@[simp] theorem v_ixS (s : List Nat) (i : Int) : dIx st (.d (.str s)) (.d (.int i)) = (atI s i).map fun c => .d (.str [c]) := (rfl)
@[simp] theorem v_ixR (s : List Int) (i : Int) : dIx st (.d (.scr s)) (.d (.int i)) = (atI s i).map fun c => .d (.int c) := (rfl)
@[simp] theorem v_ixT (ds : List D) (i : Int) : dIx st (.d (.tup ds)) (.d (.int i)) = (atI ds i).map .d := by
  show ((items st (.d (.tup ds))).bind fun ss => atI ss i) = _
  simp [atI_map]
@[simp] theorem v_ixL (ds : List D) (i : Int) : dIx st (.d (.lst ds)) (.d (.int i)) = (atI ds i).map .d := by
  show ((items st (.d (.lst ds))).bind fun ss => atI ss i) = _
  simp [atI_map]
@[simp] theorem v_cutS (s : List Nat) (l h : Option Int) : dCut st (.d (.str s)) l h = some (.d (.str (cutL s l h))) := (rfl)
@[simp] theorem v_cutT (s : List D) (l h : Option Int) : dCut st (.d (.tup s)) l h = some (.d (.tup (cutL s l h))) := (rfl)
@[simp] theorem v_cutL (s : List D) (l h : Option Int) : dCut st (.d (.lst s)) l h = some (.d (.lst (cutL s l h))) := (rfl)
@[simp] theorem v_lenS (s : List Nat) : dLen st [.d (.str s)] = some (.d (.int s.length)) := (rfl)
@[simp] theorem v_lenR (s : List Int) : dLen st [.d (.scr s)] = some (.d (.int s.length)) := (rfl)
@[simp] theorem v_lenT (s : List D) : dLen st [.d (.tup s)] = some (.d (.int s.length)) := by
  show (((items st (.d (.tup s))).map (·.length)).map fun (n : Nat) => SV.d (.int n)) = _
  simp
@[simp] theorem v_lenL (s : List D) : dLen st [.d (.lst s)] = some (.d (.int s.length)) := by
  show (((items st (.d (.lst s))).map (·.length)).map fun (n : Nat) => SV.d (.int n)) = _
  simp
@[simp] theorem v_abs (i : Int) : dAbs st [.d (.int i)] = some (.d (.int (if i < 0 then -i else i))) := (rfl)
@[simp] theorem v_int1 (i : Int) : dInt1 st [.d (.int i)] = some (.d (.int i)) := (rfl)
@[simp] theorem v_listT (s : List D) : dList st [.d (.tup s)] = some (.d (.lst s)) := by simp [dList]
@[simp] theorem v_listL (s : List D) : dList st [.d (.lst s)] = some (.d (.lst s)) := by simp [dList]
@[simp] theorem v_tupleT (s : List D) : dTuple st [.d (.tup s)] = some (.d (.tup s)) := (rfl)
@[simp] theorem v_tupleL (s : List D) : dTuple st [.d (.lst s)] = some (.d (.tup s)) := by simp [dTuple]
@[simp] theorem v_isN (a : SV) : dIsN st a (.d .non) = some (.d (.bl (isNonS a))) := (rfl)
@[simp] theorem v_notN (a : SV) : dNotN st a (.d .non) = some (.d (.bl (!isNonS a))) := (rfl)
@[simp] theorem isN_non : isNonS (.d .non) = true := (rfl)
@[simp] theorem isN_r (n : Nat) : isNonS (.r n) = false := (rfl)
@[simp] theorem isN_bl (b : Bool) : isNonS (.d (.bl b)) = false := (rfl)
@[simp] theorem isN_int (b : Int) : isNonS (.d (.int b)) = false := (rfl)
@[simp] theorem isN_str (b : List Nat) : isNonS (.d (.str b)) = false := (rfl)
@[simp] theorem isN_tup (b : List D) : isNonS (.d (.tup b)) = false := (rfl)
@[simp] theorem isN_lst (b : List D) : isNonS (.d (.lst b)) = false := (rfl)
@[simp] theorem ty_non : tyS st (.d .non) = some "NoneType" := (rfl)
@[simp] theorem ty_bl (b : Bool) : tyS st (.d (.bl b)) = some "bool" := (rfl)
@[simp] theorem ty_int (b : Int) : tyS st (.d (.int b)) = some "int" := (rfl)
@[simp] theorem ty_str (b : List Nat) : tyS st (.d (.str b)) = some "str" := (rfl)
@[simp] theorem ty_tup (b : List D) : tyS st (.d (.tup b)) = some "tuple" := (rfl)
@[simp] theorem ty_lst (b : List D) : tyS st (.d (.lst b)) = some "list" := (rfl)
@[simp] theorem keyOf_i (i : Int) : keyOf (.d (.int i)) = some (.inl i) := (rfl)
@[simp] theorem keyOf_s (s : List Nat) : keyOf (.d (.str s)) = some (.inr ⟨s.toArray⟩) := (rfl)
@[simp] theorem gAddI_i (a b : Int) : gAddI (.d (.int a)) (.d (.int b)) = some (.d (.int (a + b))) := (rfl)
@[simp] theorem gSubI_i (a b : Int) : gSubI (.d (.int a)) (.d (.int b)) = some (.d (.int (a - b))) := (rfl)
theorem join_l (s : List Nat) (ds : List D) : dJoin st (.d (.str s)) (.d (.lst ds)) = (strAll ds).bind fun zs => if (zs.map List.length).sum + zs.length * s.length ≤ 16777216 then some (.d (.str (joinN s zs))) else none := by
  show ((ditems st (.d (.lst ds))).bind _) = _
  rw [ditems_lst]
  rfl
@[simp] theorem index_s (s : List Nat) (c : Nat) : dIndex st (.d (.str s)) (.d (.str [c])) = if c ∈ s then some (.d (.int (s.idxOf c : Nat))) else none := (rfl)
@[simp] theorem idxKind_s (s : List Nat) : idxKind st (.d (.str s)) = some () := (rfl)
@[simp] theorem isDat_d (x : D) : isDat (.d x) = true := (rfl)
@[simp] theorem isDat_r (n : Nat) : isDat (.r n) = false := (rfl)
@[simp] theorem svB_d (m : Nat) (x : D) : svB m (.d x) = true := (rfl)
@[simp] theorem svB_r (m n : Nat) : svB m (.r n) = decide (n < m) := (rfl)
@[simp] theorem moB_lst (m : Nat) (ss : List SV) : moB m (.lst ss) = ss.all (svB m) := (rfl)
@[simp] theorem moB_dk (m : Nat) (es : List (Key × SV)) : moB m (.dk es) = es.all fun p => svB m p.2 := (rfl)
theorem kOf_dat : ∀ {ss : List SV}, ss.all isDat = true → kOf ss = 0
  | [], _ => rfl
  | .d x :: r, h => kOf_dat (ss := r) (by simpa [isDat] using h)
  | .r n :: r, h => by simp [isDat] at h
theorem callM_pure {F : List SV → Store → Option (SV × Store)} {ss : List SV} {d : D} (h : F ss [] = some (.d d, [])) (hs : ss.all isDat = true := by rfl) : callM F ss st = some (.d d, st) := by
  unfold callM
  rw [kOf_dat hs]
  simp [h]
/-- a call that speaks of the first record of the store alone -/
theorem callM_one {F : List SV → Store → Option (SV × Store)} {ss : List SV} {w : MO} {r : Store} (hk : kOf ss = 1) (hw : moB 1 w = true) : callM F ss (w :: r) = (F ss [w]).bind fun p => some (p.1, p.2 ++ r) := by
  unfold callM
  rw [hk]
  simp [hw]
end

@[simp] theorem natAbs10 : Int.natAbs 10 = 10 := (rfl)
/-! the store -/
def asL (n : Nat) : Option MO → Option (Nat × List SV)
  | some (.lst ss) => some (n, ss)
  | _ => none
def asK (n : Nat) : Option MO → Option (Nat × List (Key × SV))
  | some (.dk es) => some (n, es)
  | _ => none
def itL : Option MO → Option (List SV)
  | some (.lst ss) => some ss
  | _ => none
def liL : Option MO → Option (List D)
  | some (.lst ss) => dataAll ss
  | _ => none
def tdL : Option MO → Option D
  | some (.lst ss) => (dataAll ss).map .lst
  | some (.dk es) => (dataAll (es.map (·.2))).map fun ds => .dk ((es.map (·.1)).zip ds)
  | _ => none
def dsL : Option MO → Option (List (Key × SV))
  | some (.dk es) => some es
  | _ => none
def tyL : Option MO → Option String
  | some (.lst _) => some "list"
  | some (.dk _) => some "dict"
  | _ => none
section
variable (st : Store) (n : Nat) (ss : List SV) (es : List (Key × SV))
@[simp] theorem asL_l : asL n (some (.lst ss)) = some (n, ss) := (rfl)
@[simp] theorem asK_k : asK n (some (.dk es)) = some (n, es) := (rfl)
@[simp] theorem itL_l : itL (some (.lst ss)) = some ss := (rfl)
@[simp] theorem liL_l : liL (some (.lst ss)) = dataAll ss := (rfl)
@[simp] theorem tdL_l : tdL (some (.lst ss)) = (dataAll ss).map .lst := (rfl)
@[simp] theorem tdL_k : tdL (some (.dk es)) = (dataAll (es.map (·.2))).map fun ds => .dk ((es.map (·.1)).zip ds) := (rfl)
@[simp] theorem dsL_k : dsL (some (.dk es)) = some es := (rfl)
@[simp] theorem dsL_l : dsL (some (.lst ss)) = none := (rfl)
@[simp] theorem tyL_l : tyL (some (.lst ss)) = some "list" := (rfl)
@[simp] theorem tyL_k : tyL (some (.dk es)) = some "dict" := (rfl)
@[simp] theorem lstAt_r : lstAt st (.r n) = asL n st[n]? := by
  show (match st[n]? with | some (.lst ss) => some (n, ss) | _ => none) = _
  cases st[n]? with
  | none => rfl
  | some o => cases o <;> rfl
@[simp] theorem dkAt_r : dkAt st (.r n) = asK n st[n]? := by
  show (match st[n]? with | some (.dk ss) => some (n, ss) | _ => none) = _
  cases st[n]? with
  | none => rfl
  | some o => cases o <;> rfl
@[simp] theorem items_r : items st (.r n) = itL st[n]? := by
  show (match st[n]? with | some (.lst ss) => some ss | _ => none) = _
  cases st[n]? with
  | none => rfl
  | some o => cases o <;> rfl
@[simp] theorem litems_r : litems st (.r n) = liL st[n]? := by
  show (match st[n]? with | some (.lst ss) => dataAll ss | _ => none) = _
  cases st[n]? with
  | none => rfl
  | some o => cases o <;> rfl
@[simp] theorem toD_r : toD st (.r n) = tdL st[n]? := by
  cases h : st[n]? with
  | none => simp [toD, h, tdL]
  | some o => cases o <;> simp [toD, h, tdL]
@[simp] theorem dkS_r : dkS st (.r n) = dsL st[n]? := by
  show (match st[n]? with | some (.dk ss) => some ss | _ => none) = _
  cases st[n]? with
  | none => rfl
  | some o => cases o <;> rfl
@[simp] theorem dkS_tup (ds : List D) : dkS st (.d (.tup ds)) = none := (rfl)
@[simp] theorem dkS_lst (ds : List D) : dkS st (.d (.lst ds)) = none := (rfl)
@[simp] theorem dkS_dk (es : List (Key × D)) : dkS st (.d (.dk es)) = some (es.map fun p => (p.1, .d p.2)) := (rfl)
@[simp] theorem dkS_str (s : List Nat) : dkS st (.d (.str s)) = none := (rfl)
@[simp] theorem tyS_r : tyS st (.r n) = tyL st[n]? := by
  show (match st[n]? with | some (.lst _) => some "list" | some (.dk _) => some "dict" | _ => none) = _
  cases st[n]? with
  | none => rfl
  | some o => cases o <;> rfl
@[simp] theorem v_ixRef (i : Int) : dIx st (.r n) (.d (.int i)) = (itL st[n]?).bind fun ss => atI ss i := by
  show ((items st (.r n)).bind fun ss => atI ss i) = _
  rw [items_r]
@[simp] theorem v_lenRef : dLen st [.r n] = (itL st[n]?).map fun ss => .d (.int (ss.length : Nat)) := by
  show (((items st (.r n)).map (·.length)).map fun (n : Nat) => SV.d (.int n)) = _
  rw [items_r, Option.map_map]
  rfl
@[simp] theorem v_cutRef (l h : Option Int) : dCut st (.r n) l h = (liL st[n]?).map fun ds => .d (.lst (cutL ds l h)) := by
  show ((litems st (.r n)).map fun ds => SV.d (.lst (cutL ds l h))) = _
  rw [litems_r]
@[simp] theorem ditems_r : ditems st (.r n) = (itL st[n]?).bind dataAll := by
  unfold ditems
  rw [items_r]
@[simp] theorem v_listRef : dList st [.r n] = ((itL st[n]?).bind dataAll).map fun ds => .d (.lst ds) := by
  show ((ditems st (.r n)).map fun ds => SV.d (.lst ds)) = _
  rw [ditems_r]
@[simp] theorem v_tupleRef : dTuple st [.r n] = (liL st[n]?).map fun ds => .d (.tup ds) := by
  show ((litems st (.r n)).map fun ds => SV.d (.tup ds)) = _
  rw [litems_r]
@[simp] theorem v_eqRef (b : D) : dEq st (.r n) (.d b) = (tdL st[n]?).bind fun x => if eqOk 30 x = true ∧ eqOk 30 b = true then some (.d (.bl (D.eqv x b))) else none := by
  show ((toD st (.r n)).bind fun x => _) = _
  rw [toD_r]
  rfl
@[simp] theorem v_neRef (b : D) : dNe st (.r n) (.d b) = (tdL st[n]?).bind fun x => if eqOk 30 x = true ∧ eqOk 30 b = true then some (.d (.bl (!D.eqv x b))) else none := by
  show ((toD st (.r n)).bind fun x => _) = _
  rw [toD_r]
  rfl
@[simp] theorem v_addRR (m : Nat) : dAdd st (.r n) (.r m) = (liL st[n]?).bind fun a => (liL st[m]?).bind fun b => if a.length + b.length ≤ sizeLine then some (.d (.lst (a ++ b))) else none := by
  show (match litems st (.r n), litems st (.r m) with | some a, some b => if a.length + b.length ≤ sizeLine then some (SV.d (.lst (a ++ b))) else none | _, _ => none) = _
  rw [litems_r, litems_r]
  cases liL st[n]? <;> cases liL st[m]? <;> rfl
@[simp] theorem v_addRL (b : List D) : dAdd st (.r n) (.d (.lst b)) = (liL st[n]?).bind fun a => if a.length + b.length ≤ sizeLine then some (.d (.lst (a ++ b))) else none := by
  show (match litems st (.r n), litems st (.d (.lst b)) with | some a, some b => if a.length + b.length ≤ sizeLine then some (SV.d (.lst (a ++ b))) else none | _, _ => none) = _
  rw [litems_r, litems_lst]
  cases liL st[n]? <;> rfl
@[simp] theorem v_addLR (b : List D) : dAdd st (.d (.lst b)) (.r n) = (liL st[n]?).bind fun a => if b.length + a.length ≤ sizeLine then some (.d (.lst (b ++ a))) else none := by
  show (match litems st (.d (.lst b)), litems st (.r n) with | some a, some b => if a.length + b.length ≤ sizeLine then some (SV.d (.lst (a ++ b))) else none | _, _ => none) = _
  rw [litems_r, litems_lst]
  cases liL st[n]? <;> rfl
end

/-! ### loops -/
section
variable {tg : FG} {body : FS}
/-- a loop by what holds of it; R: what holds where it is left -/
theorem forL_wp {R : Out × Env × Store → Prop} : ∀ (ss : List SV) (I : Nat → Env → Store → Prop) {δ : Env} {st : Store} (h0 : I 0 δ st)
    (hs : ∀ i s δ st, ss[i]? = some s → I i δ st → Run (tg st s δ) fun δ1 => Run (body δ1 st) fun p => match p.1 with | .nx => I (i + 1) p.2.1 p.2.2 | .ct => I (i + 1) p.2.1 p.2.2 | .bk => R (.nx, p.2.1, p.2.2) | .rt v => R (.rt v, p.2.1, p.2.2))
    (hd : ∀ δ st, I ss.length δ st → R (.nx, δ, st)), Run (forL cYes tg body ss δ st) R
  | [], I, δ, st, h0, hs, hd => by
    unfold forL
    simp
    exact hd _ _ h0
  | s :: r, I, δ, st, h0, hs, hd => by
    unfold forL
    simp only [a_cYes, Option.bind_some, run_bind]
    refine (hs 0 s δ st rfl h0).mono fun δ1 h1 => h1.mono fun p h2 => ?_
    obtain ⟨o, δ2, st2⟩ := p
    have go : I 1 δ2 st2 → Run (forL cYes tg body r δ2 st2) R := fun h => forL_wp r (fun i => I (i + 1)) h (fun i s δ st e h => hs (i + 1) s δ st (by simpa using e) h) fun δ st h => hd δ st h
    cases o with
    | nx => exact go h2
    | ct => exact go h2
    | bk => exact run_some.mpr h2
    | rt v => exact run_some.mpr h2
theorem lcL_wp {tt : FT} {elt : FE} {δw : Env} {R : List D × Store → Prop} : ∀ (ss : List SV) (I : Nat → List D → Store → Prop) {st : Store} {acc : List D} (h0 : I 0 acc st)
    (hs : ∀ i s acc st, ss[i]? = some s → I i acc st → acc.length < sizeLine ∧ Run (tg st s δw) fun δ1 => Run (tt δ1 st) fun p => if p.1 = true then Run (elt δ1 p.2) fun q => ∃ d, q.1 = .d d ∧ I (i + 1) (acc ++ [d]) q.2 else I (i + 1) acc p.2)
    (hd : ∀ acc st, I ss.length acc st → R (acc, st)), Run (lcL cYes tg tt elt δw ss st acc) R
  | [], I, st, acc, h0, hs, hd => by
    unfold lcL
    simp
    exact hd _ _ h0
  | s :: r, I, st, acc, h0, hs, hd => by
    unfold lcL
    simp only [a_cYes, Option.bind_some, run_bind]
    obtain ⟨hz, hr⟩ := hs 0 s acc st rfl h0
    refine hr.mono fun δ1 h1 => h1.mono fun p h2 => ?_
    have go : ∀ acc st, I 1 acc st → Run (lcL cYes tg tt elt δw r st acc) R := fun acc st h => lcL_wp r (fun i => I (i + 1)) h (fun i s acc st e h => hs (i + 1) s acc st (by simpa using e) h) fun acc st h => hd acc st h
    by_cases c : p.1 = true
    · rw [if_pos c] at h2 ⊢
      rw [run_bind]
      refine h2.mono fun q h3 => ?_
      obtain ⟨d, e, h4⟩ := h3
      rw [e]
      simp only [asD_d, Option.bind_some]
      rw [if_pos hz]
      exact go _ _ h4
    · rw [if_neg c] at h2 ⊢
      exact go _ _ h2
/-- a comprehension that changes nothing: what each item gives -/
theorem lcL_pure {tt : FT} {elt : FE} {δw : Env} {st : Store} (f : SV → Option D) : ∀ (ss : List SV) (acc : List D) (hz : acc.length + ss.length ≤ sizeLine)
    (hs : ∀ s ∈ ss, ∃ δ1, tg st s δw = some δ1 ∧ ∃ b, tt δ1 st = some (b, st) ∧ (b = true → ∃ d, elt δ1 st = some (.d d, st) ∧ f s = some d) ∧ (b = false → f s = none)), lcL cYes tg tt elt δw ss st acc = some (acc ++ ss.filterMap f, st)
  | [], acc, _, _ => by simp [lcL]
  | s :: r, acc, hz, hs => by
    obtain ⟨δ1, e1, b, e2, h1, h2⟩ := hs s (by simp)
    unfold lcL
    simp only [a_cYes, Option.bind_some, e1, e2]
    rw [List.length_cons] at hz
    cases b with
    | true =>
      obtain ⟨d, e3, e4⟩ := h1 rfl
      simp only [if_true, e3, Option.bind_some, asD_d]
      rw [if_pos (by omega), lcL_pure f r (acc ++ [d]) (by simp; omega) fun s hs' => hs s (List.mem_cons_of_mem _ hs')]
      simp [List.filterMap_cons, e4]
    | false =>
      simp only [Bool.false_eq_true, if_false]
      rw [lcL_pure f r acc (by omega) fun s hs' => hs s (List.mem_cons_of_mem _ hs')]
      simp [List.filterMap_cons, h2 rfl]
end
def finO : Out × Env × Store → Option (SV × Store)
  | (.nx, _, st) => some (.d .non, st)
  | (.rt s, _, st) => some (s, st)
  | _ => none
@[simp] theorem finO_nx (δ : Env) (st : Store) : finO (.nx, δ, st) = some (.d .non, st) := (rfl)
@[simp] theorem finO_rt (s : SV) (δ : Env) (st : Store) : finO (.rt s, δ, st) = some (s, st) := (rfl)
@[simp] theorem finO_bk (δ : Env) (st : Store) : finO (.bk, δ, st) = none := (rfl)
@[simp] theorem finO_ct (δ : Env) (st : Store) : finO (.ct, δ, st) = none := (rfl)
theorem a_runF (n : Nat) (g : FS) (ss : List SV) (st : Store) : runF n g ss st = (cScoped g (ss.map some ++ List.replicate (n - ss.length) none) st).bind finO := by
  unfold runF
  congr 1
  funext p
  obtain ⟨o, d, s⟩ := p
  cases o <;> rfl
/-! comparing -/
@[simp] theorem isTy_int_NoneType : isTy "int" "NoneType" = false := by decide +kernel
@[simp] theorem isTy_int_bool : isTy "int" "bool" = true := by decide +kernel
@[simp] theorem isTy_int_int : isTy "int" "int" = true := by decide +kernel
@[simp] theorem isTy_int_str : isTy "int" "str" = false := by decide +kernel
@[simp] theorem isTy_int_tuple : isTy "int" "tuple" = false := by decide +kernel
@[simp] theorem isTy_int_list : isTy "int" "list" = false := by decide +kernel
@[simp] theorem isTy_int_dict : isTy "int" "dict" = false := by decide +kernel
@[simp] theorem isTy_bool_NoneType : isTy "bool" "NoneType" = false := by decide +kernel
@[simp] theorem isTy_bool_bool : isTy "bool" "bool" = true := by decide +kernel
@[simp] theorem isTy_bool_int : isTy "bool" "int" = false := by decide +kernel
@[simp] theorem isTy_bool_str : isTy "bool" "str" = false := by decide +kernel
@[simp] theorem isTy_bool_tuple : isTy "bool" "tuple" = false := by decide +kernel
@[simp] theorem isTy_bool_list : isTy "bool" "list" = false := by decide +kernel
@[simp] theorem isTy_bool_dict : isTy "bool" "dict" = false := by decide +kernel
@[simp] theorem isTy_str_NoneType : isTy "str" "NoneType" = false := by decide +kernel
@[simp] theorem isTy_str_bool : isTy "str" "bool" = false := by decide +kernel
@[simp] theorem isTy_str_int : isTy "str" "int" = false := by decide +kernel
@[simp] theorem isTy_str_str : isTy "str" "str" = true := by decide +kernel
@[simp] theorem isTy_str_tuple : isTy "str" "tuple" = false := by decide +kernel
@[simp] theorem isTy_str_list : isTy "str" "list" = false := by decide +kernel
@[simp] theorem isTy_str_dict : isTy "str" "dict" = false := by decide +kernel
@[simp] theorem isTy_tuple_NoneType : isTy "tuple" "NoneType" = false := by decide +kernel
@[simp] theorem isTy_tuple_bool : isTy "tuple" "bool" = false := by decide +kernel
@[simp] theorem isTy_tuple_int : isTy "tuple" "int" = false := by decide +kernel
@[simp] theorem isTy_tuple_str : isTy "tuple" "str" = false := by decide +kernel
@[simp] theorem isTy_tuple_tuple : isTy "tuple" "tuple" = true := by decide +kernel
@[simp] theorem isTy_tuple_list : isTy "tuple" "list" = false := by decide +kernel
@[simp] theorem isTy_tuple_dict : isTy "tuple" "dict" = false := by decide +kernel
@[simp] theorem isTy_list_NoneType : isTy "list" "NoneType" = false := by decide +kernel
@[simp] theorem isTy_list_bool : isTy "list" "bool" = false := by decide +kernel
@[simp] theorem isTy_list_int : isTy "list" "int" = false := by decide +kernel
@[simp] theorem isTy_list_str : isTy "list" "str" = false := by decide +kernel
@[simp] theorem isTy_list_tuple : isTy "list" "tuple" = false := by decide +kernel
@[simp] theorem isTy_list_list : isTy "list" "list" = true := by decide +kernel
@[simp] theorem isTy_list_dict : isTy "list" "dict" = false := by decide +kernel
@[simp] theorem isTy_dict_NoneType : isTy "dict" "NoneType" = false := by decide +kernel
@[simp] theorem isTy_dict_bool : isTy "dict" "bool" = false := by decide +kernel
@[simp] theorem isTy_dict_int : isTy "dict" "int" = false := by decide +kernel
@[simp] theorem isTy_dict_str : isTy "dict" "str" = false := by decide +kernel
@[simp] theorem isTy_dict_tuple : isTy "dict" "tuple" = false := by decide +kernel
@[simp] theorem isTy_dict_list : isTy "dict" "list" = false := by decide +kernel
@[simp] theorem isTy_dict_dict : isTy "dict" "dict" = true := by decide +kernel
section
variable (n : Nat)
@[simp] theorem eo_non : eqOk n .non = true := by cases n <;> rfl
@[simp] theorem eo_bl (b : Bool) : eqOk n (.bl b) = true := by cases n <;> rfl
@[simp] theorem eo_int (b : Int) : eqOk n (.int b) = true := by cases n <;> rfl
@[simp] theorem eo_str (b : List Nat) : eqOk n (.str b) = true := by cases n <;> rfl
@[simp] theorem eo_tup (ds : List D) : eqOk (n + 1) (.tup ds) = ds.all (eqOk n) := by unfold eqOk; exact eqOkAll_eq n ds
@[simp] theorem eo_lst (ds : List D) : eqOk (n + 1) (.lst ds) = ds.all (eqOk n) := by unfold eqOk; exact eqOkAll_eq n ds
end
@[simp] theorem ev_nn : D.eqv .non .non = true := by unfold D.eqv; rfl
@[simp] theorem ev_ii (a b : Int) : D.eqv (.int a) (.int b) = decide (a = b) := by unfold D.eqv; rw [Bool.eq_iff_iff]; simp
@[simp] theorem ev_bb (a b : Bool) : D.eqv (.bl a) (.bl b) = (a == b) := by unfold D.eqv; rfl
@[simp] theorem ev_ss (a b : List Nat) : D.eqv (.str a) (.str b) = decide (a = b) := by unfold D.eqv; rw [Bool.eq_iff_iff]; simp
@[simp] theorem ev_tt (a b : List D) : D.eqv (.tup a) (.tup b) = D.eqvAll a b := by unfold D.eqv; rfl
@[simp] theorem ev_ll (a b : List D) : D.eqv (.lst a) (.lst b) = D.eqvAll a b := by unfold D.eqv; rfl
@[simp] theorem ea_nn : D.eqvAll [] [] = true := by unfold D.eqvAll; rfl
@[simp] theorem ea_nc (x : D) (r : List D) : D.eqvAll [] (x :: r) = false := by unfold D.eqvAll; rfl
@[simp] theorem ea_cn (x : D) (r : List D) : D.eqvAll (x :: r) [] = false := by unfold D.eqvAll; rfl
@[simp] theorem ea_cc (x y : D) (r q : List D) : D.eqvAll (x :: r) (y :: q) = (D.eqv x y && D.eqvAll r q) := by conv => lhs; unfold D.eqvAll
@[simp] theorem ea_mapd {α : Type} (a : List α) (f : α → D) : D.eqvAll (a.map f) [] = a.isEmpty := by cases a <;> simp
theorem ea_n (a : List D) : D.eqvAll a [] = a.isEmpty := by cases a <;> simp
@[simp] theorem ev_non_bl  (b : Bool) : D.eqv .non (.bl b) = false := by simp [D.eqv]
@[simp] theorem ev_non_int  (b : Int) : D.eqv .non (.int b) = false := by simp [D.eqv]
@[simp] theorem ev_non_str  (b : List Nat) : D.eqv .non (.str b) = false := by simp [D.eqv]
@[simp] theorem ev_non_tup  (b : List D) : D.eqv .non (.tup b) = false := by simp [D.eqv]
@[simp] theorem ev_non_lst  (b : List D) : D.eqv .non (.lst b) = false := by simp [D.eqv]
@[simp] theorem ev_bl_non (a : Bool)  : D.eqv (.bl a) .non = false := by simp [D.eqv]
@[simp] theorem ev_bl_str (a : Bool) (b : List Nat) : D.eqv (.bl a) (.str b) = false := by simp [D.eqv]
@[simp] theorem ev_bl_tup (a : Bool) (b : List D) : D.eqv (.bl a) (.tup b) = false := by simp [D.eqv]
@[simp] theorem ev_bl_lst (a : Bool) (b : List D) : D.eqv (.bl a) (.lst b) = false := by simp [D.eqv]
@[simp] theorem ev_int_non (a : Int)  : D.eqv (.int a) .non = false := by simp [D.eqv]
@[simp] theorem ev_int_str (a : Int) (b : List Nat) : D.eqv (.int a) (.str b) = false := by simp [D.eqv]
@[simp] theorem ev_int_tup (a : Int) (b : List D) : D.eqv (.int a) (.tup b) = false := by simp [D.eqv]
@[simp] theorem ev_int_lst (a : Int) (b : List D) : D.eqv (.int a) (.lst b) = false := by simp [D.eqv]
@[simp] theorem ev_str_non (a : List Nat)  : D.eqv (.str a) .non = false := by simp [D.eqv]
@[simp] theorem ev_str_bl (a : List Nat) (b : Bool) : D.eqv (.str a) (.bl b) = false := by simp [D.eqv]
@[simp] theorem ev_str_int (a : List Nat) (b : Int) : D.eqv (.str a) (.int b) = false := by simp [D.eqv]
@[simp] theorem ev_str_tup (a : List Nat) (b : List D) : D.eqv (.str a) (.tup b) = false := by simp [D.eqv]
@[simp] theorem ev_str_lst (a : List Nat) (b : List D) : D.eqv (.str a) (.lst b) = false := by simp [D.eqv]
@[simp] theorem ev_tup_non (a : List D)  : D.eqv (.tup a) .non = false := by simp [D.eqv]
@[simp] theorem ev_tup_bl (a : List D) (b : Bool) : D.eqv (.tup a) (.bl b) = false := by simp [D.eqv]
@[simp] theorem ev_tup_int (a : List D) (b : Int) : D.eqv (.tup a) (.int b) = false := by simp [D.eqv]
@[simp] theorem ev_tup_str (a : List D) (b : List Nat) : D.eqv (.tup a) (.str b) = false := by simp [D.eqv]
@[simp] theorem ev_tup_lst (a : List D) (b : List D) : D.eqv (.tup a) (.lst b) = false := by simp [D.eqv]
@[simp] theorem ev_lst_non (a : List D)  : D.eqv (.lst a) .non = false := by simp [D.eqv]
@[simp] theorem ev_lst_bl (a : List D) (b : Bool) : D.eqv (.lst a) (.bl b) = false := by simp [D.eqv]
@[simp] theorem ev_lst_int (a : List D) (b : Int) : D.eqv (.lst a) (.int b) = false := by simp [D.eqv]
@[simp] theorem ev_lst_str (a : List D) (b : List Nat) : D.eqv (.lst a) (.str b) = false := by simp [D.eqv]
@[simp] theorem ev_lst_tup (a : List D) (b : List D) : D.eqv (.lst a) (.tup b) = false := by simp [D.eqv]
@[simp] theorem wipeE_nil (δ : Env) : wipeE δ [] = δ := (rfl)
@[simp] theorem wipeE_cons (δ : Env) (i : Nat) (r : List Nat) : wipeE δ (i :: r) = (wipeE δ r).set i none := (rfl)
@[simp] theorem cast_0 : ((0 : Nat) : Int) = 0 := (rfl)
@[simp] theorem cast_1 : ((1 : Nat) : Int) = 1 := (rfl)
@[simp] theorem cast_2 : ((2 : Nat) : Int) = 2 := (rfl)
@[simp] theorem cast_3 : ((3 : Nat) : Int) = 3 := (rfl)
@[simp] theorem cast_4 : ((4 : Nat) : Int) = 4 := (rfl)
@[simp] theorem cast_5 : ((5 : Nat) : Int) = 5 := (rfl)
@[simp] theorem cast_6 : ((6 : Nat) : Int) = 6 := (rfl)
@[simp] theorem cast_7 : ((7 : Nat) : Int) = 7 := (rfl)
@[simp] theorem cast_8 : ((8 : Nat) : Int) = 8 := (rfl)
@[simp] theorem cast_9 : ((9 : Nat) : Int) = 9 := (rfl)
@[simp] theorem cast_10 : ((10 : Nat) : Int) = 10 := (rfl)
@[simp] theorem cast_11 : ((11 : Nat) : Int) = 11 := (rfl)
@[simp] theorem cast_12 : ((12 : Nat) : Int) = 12 := (rfl)
/-! displays of dicts -/
@[simp] theorem keysOf_nil : keysOf [] = some [] := (rfl)
@[simp] theorem keysOf_cons (a b : SV) (r : List (SV × SV)) : keysOf ((a, b) :: r) = (keyOf a).bind fun k => (keysOf r).map fun t => (k, b) :: t := (rfl)
@[simp] theorem mergeS_nil (es : List (Key × SV)) : mergeS es [] = es := (rfl)
@[simp] theorem mergeS_cons (es r : List (Key × SV)) (k : Key) (s : SV) : mergeS es ((k, s) :: r) = mergeS (putS es k s) r := (rfl)
@[simp] theorem inR_s {i : Int} (h1 : -1000000 ≤ i) (h2 : i ≤ 1000000) : inR i = true := by
  unfold inR
  exact decide_eq_true (by omega)
/-! sizes -/
theorem line_big : 100000 < sizeLine := by rw [sizeLine_eq]; decide
@[simp] theorem sz_lt {n : Nat} (h : n < 100000) : (n < sizeLine) = True := eq_true (Nat.lt_trans h line_big)
@[simp] theorem sz_le {n : Nat} (h : n ≤ 100000) : (n ≤ sizeLine) = True := eq_true (Nat.le_of_lt (Nat.lt_of_le_of_lt h line_big))
/-! keys -/
def leq : List Nat → List Nat → Bool
  | [], [] => true
  | a :: x, b :: y => decide (a = b) && leq x y
  | _, _ => false
theorem leq_ok : ∀ a b : List Nat, leq a b = true ↔ a = b
  | [], [] => by simp [leq]
  | [], _ :: _ => by simp [leq]
  | _ :: _, [] => by simp [leq]
  | a :: x, b :: y => by simp [leq, leq_ok x y]
@[simp] theorem leq_nn : leq [] [] = true := (rfl)
@[simp] theorem leq_nc (a : Nat) (x : List Nat) : leq [] (a :: x) = false := (rfl)
@[simp] theorem leq_cn (a : Nat) (x : List Nat) : leq (a :: x) [] = false := (rfl)
@[simp] theorem leq_cc (a b : Nat) (x y : List Nat) : leq (a :: x) (b :: y) = (decide (a = b) && leq x y) := (rfl)
@[simp] theorem key_ss (a b : List Nat) : ((Sum.inr ⟨a.toArray⟩ : Key) = .inr ⟨b.toArray⟩) = (leq a b = true) := by simp [leq_ok]
@[simp] theorem key_ii (a b : Int) : ((Sum.inl a : Key) = .inl b) = (a = b) := by simp
@[simp] theorem key_is (a : Int) (b : Str) : ((Sum.inl a : Key) = .inr b) = False := by simp
@[simp] theorem key_si (a : Int) (b : Str) : ((Sum.inr b : Key) = .inl a) = False := by simp
section
variable {α : Type} (k k' : Key) (v : α) (s u : SV)
@[simp] theorem findK_nil : findK ([] : List (Key × α)) k = none := (rfl)
@[simp] theorem findK_cons (r : List (Key × α)) : findK ((k', v) :: r) k = if k' = k then some v else findK r k := by
  unfold findK
  rw [List.find?_cons]
  by_cases h : k' = k
  · simp [h]
  · simp [h]
def mapS (r : List (Key × SV)) (k : Key) (s : SV) : List (Key × SV) := r.map fun p => if p.1 = k then (p.1, s) else p
@[simp] theorem mapS_nil : mapS [] k s = [] := (rfl)
@[simp] theorem mapS_cons (r : List (Key × SV)) : mapS ((k', u) :: r) k s = (if k' = k then (k', s) else (k', u)) :: mapS r k s := (rfl)
@[simp] theorem putS_nil : putS [] k s = [(k, s)] := (rfl)
@[simp] theorem putS_cons (r : List (Key × SV)) : putS ((k', u) :: r) k s = if k' = k then (k', s) :: mapS r k s else (k', u) :: putS r k s := by
  unfold putS mapS
  by_cases h : k' = k
  · simp [h]
  · rw [List.any_cons, decide_eq_false h, Bool.false_or, List.map_cons]
    simp only [if_neg h, List.cons_append]
    by_cases g : (r.any fun p => decide (p.fst = k)) = true
    · rw [if_pos g, if_pos g]
    · rw [if_neg g, if_neg g]
end
end DL

set_option maxHeartbeats 2000000
/-! LX: what the laws' own helpers give. -/
namespace LX
open PySem PySem.Spec L2 DL
noncomputable def g_answer_from : FS :=
  (cSeq (cSet 4 (cC (.str [])))
  (cSeq (cFor (cStrI (cVar 3)) (gN 5)
  (cSeq (cAsg (gTp 2 (gsCons (gN 6) (gsCons (gN 2) gsNil))) (cOp dIx (cOp dIx (cVar 0) (cVar 2)) (cIndex (cVar 1) (cVar 5))))
  (cSet 4 (cOp dAdd (cVar 4) (cVar 6)))))
  (cRet (cTup (cCons (cVar 4) (cCons (cVar 2) cNil))))))
noncomputable def F_answer_from : List SV → Store → Option (SV × Store) := runF 7 g_answer_from
noncomputable def g_box_answer : FS :=
  (cRet (cOp dIx (cCall F_answer_from (cCons (cVar 0) (cCons (cVar 1) (cCons (cC (.int 0)) (cCons (cVar 2) cNil))))) (cC (.int 0))))
noncomputable def F_box_answer : List SV → Store → Option (SV × Store) := runF 3 g_box_answer
noncomputable def g__law_draws : FS :=
  (cSeq (cSet 2 (cNew cNil))
  (cSeq (cSet 3 (cC (.int 7)))
  (cSeq (cFor (cRng1 (cFn dLen (cCons (cVar 0) cNil))) (gN 4)
  (cSeq (cSet 5 (cFn dAbs (cCons (cFn dInt1 (cCons (cOp dIx (cVar 0) (cVar 4)) cNil)) cNil)))
  (cSeq (cSet 3 (cOp dMod (cFn dInt1 (cCons (cOp dAdd (cOp dAdd (cOp dMul (cVar 3) (cC (.int 48271))) (cOp dMod (cVar 5) (cC (.int 1000003)))) (cVar 4)) cNil)) (cC (.int 65537))))
  (cSeq (cSet 6 (cC (.int 0)))
  (cSeq (cIfS (cTest (cOp dGe (cVar 5) (cOp dPow (cC (.int 10)) (cC (.int 18)))))
  (cSet 6 (cVar 5))
  (cSeq (cExpr (cApp (cVar 2) (cOp dMod (cFn dInt1 (cCons (cVar 5) cNil)) (cC (.int 997)))))
  (cExpr (cApp (cVar 2) (cOp dMod (cOp dMod (cFn dInt1 (cCons (cOp dAdd (cOp dMul (cVar 3) (cC (.int 69621))) (cC (.int 5))) cNil)) (cC (.int 65521))) (cC (.int 997)))))))
  (cFor (cRng1 (cC (.int 60))) (gN 7)
  (cIfS (cTest (cOp dGt (cVar 6) (cC (.int 0))))
  (cSeq (cExpr (cApp (cVar 2) (cOp dMod (cFn dInt1 (cCons (cVar 6) cNil)) (cC (.int 997)))))
  (cSet 6 (cOp dFdiv (cVar 6) (cC (.int 997)))))
  cSkip)))))))
  (cSeq (cFor (cRng1 (cVar 1)) (gN 4)
  (cSeq (cSet 3 (cOp dMod (cFn dInt1 (cCons (cOp dAdd (cOp dAdd (cOp dMul (cVar 3) (cC (.int 16807))) (cVar 4)) (cC (.int 1))) cNil)) (cC (.int 65537))))
  (cExpr (cApp (cVar 2) (cOp dMod (cFn dInt1 (cCons (cVar 3) cNil)) (cC (.int 997)))))))
  (cRet (cCut (cVar 2) cNoPart (cPart (cVar 1))))))))
noncomputable def F__law_draws : List SV → Store → Option (SV × Store) := runF 8 g__law_draws
noncomputable def g__law_next : FS :=
  (cSeq (cDAug (cVar 0) (cC (.str [97, 116])) (cC (.int 1)))
  (cSeq (cIfS (cTest (cOp dGt (cSub (cVar 0) (cC (.str [97, 116]))) (cFn dLen (cCons (cSub (cVar 0) (cC (.str [100, 114, 97, 119, 115]))) cNil))))
  (cRet (cC (.int 0)))
  cSkip)
  (cRet (cOp dMod (cFn dInt1 (cCons (cOp dIx (cSub (cVar 0) (cC (.str [100, 114, 97, 119, 115]))) (cOp dSub (cSub (cVar 0) (cC (.str [97, 116]))) (cC (.int 1)))) cNil)) (cVar 1)))))
noncomputable def F__law_next : List SV → Store → Option (SV × Store) := runF 2 g__law_next
noncomputable def g__law_pick : FS :=
  (cRet (cOp dIx (cVar 1) (cCall F__law_next (cCons (cVar 0) (cCons (cFn dLen (cCons (cVar 1) cNil)) cNil)))))
noncomputable def F__law_pick : List SV → Store → Option (SV × Store) := runF 2 g__law_pick
noncomputable def g__law_alike (R : List SV → Store → Option (SV × Store)) : FS :=
  (cSeq (cIfS (cTest (cIsi "tuple" (cVar 1)))
  (cSeq (cIfS (cOr (cNot (cTest (cIsi "tuple" (cVar 0)))) (cTest (cOp dNe (cFn dLen (cCons (cVar 0) cNil)) (cFn dLen (cCons (cVar 1) cNil)))))
  (cRet (cC (.bl false)))
  cSkip)
  (cRet (cOp dEq (cLc (cRng1 (cFn dLen (cCons (cVar 1) cNil))) (gN 2) (cNot (cTest (cCall R (cCons (cOp dIx (cVar 0) (cVar 2)) (cCons (cOp dIx (cVar 1) (cVar 2)) cNil))))) (cVar 2) [2]) (cLst cNil))))
  cSkip)
  (cSeq (cIfS (cTest (cOp dIsN (cVar 1) (cC .non)))
  (cRet (cOp dIsN (cVar 0) (cC .non)))
  cSkip)
  (cSeq (cIfS (cTest (cIsi "bool" (cVar 1)))
  (cRet (cAndV (cIsi "bool" (cVar 0)) (cOp dEq (cVar 0) (cVar 1))))
  cSkip)
  (cSeq (cIfS (cTest (cIsi "int" (cVar 1)))
  (cRet (cAndV (cIsi "int" (cVar 0)) (cAndV (cNotV (cIsi "bool" (cVar 0))) (cOp dEq (cVar 0) (cVar 1)))))
  cSkip)
  (cRet (cAndV (cIsi "str" (cVar 0)) (cOp dEq (cVar 0) (cVar 1))))))))
noncomputable def F__law_alike : Nat → List SV → Store → Option (SV × Store)
  | 0 => fun _ _ => none
  | n + 1 => runF 3 (g__law_alike (F__law_alike n))
noncomputable def g__law_box : FS :=
  (cSeq (cSet 3 (cOp dAdd (cC (.int 1)) (cCall F__law_next (cCons (cVar 0) (cCons (cVar 2) cNil)))))
  (cSeq (cSet 4 (cCall F__law_pick (cCons (cVar 0) (cCons (cLst (cCons (cC (.str [120, 121])) (cCons (cC (.str [120, 121])) (cCons (cC (.str [120])) (cCons (cC (.str [120, 121, 122])) cNil))))) cNil))))
  (cRet (cFn dTuple (cCons (cLc (cRng1 (cVar 3)) (gN 5) cTt (cFn dTuple (cCons (cLc (cStrI (cVar 1)) (gN 6) cTt (cTup (cCons (cCall F__law_pick (cCons (cVar 0) (cCons (cVar 4) cNil))) (cCons (cCall F__law_next (cCons (cVar 0) (cCons (cVar 3) cNil))) cNil))) [6]) cNil)) [5]) cNil)))))
noncomputable def F__law_box : List SV → Store → Option (SV × Store) := runF 7 g__law_box
noncomputable def g__law_from : FS :=
  (cSeq (cSet 4 (cC (.str [])))
  (cSeq (cFor (cStrI (cVar 3)) (gN 5)
  (cSeq (cAsg (gTp 2 (gsCons (gN 6) (gsCons (gN 2) gsNil))) (cOp dIx (cOp dIx (cVar 0) (cVar 2)) (cIndex (cVar 1) (cVar 5))))
  (cSet 4 (cOp dAdd (cVar 4) (cVar 6)))))
  (cRet (cTup (cCons (cVar 4) (cCons (cVar 2) cNil))))))
noncomputable def F__law_from : List SV → Store → Option (SV × Store) := runF 7 g__law_from
noncomputable def g__law_rows : FS :=
  (cSeq (cSet 2 (cLst (cCons (cC (.str [])) cNil)))
  (cSeq (cSet 3 (cLst (cCons (cC (.str [])) cNil)))
  (cSeq (cFor (cRng1 (cVar 1)) (gN 4)
  (cSeq (cSet 5 (cLst cNil))
  (cSeq (cFor (cSeqI (cVar 3)) (gN 6)
  (cSet 5 (cOp dAdd (cVar 5) (cLc (cStrI (cVar 0)) (gN 7) cTt (cOp dAdd (cVar 6) (cVar 7)) [7]))))
  (cSeq (cSet 2 (cOp dAdd (cVar 2) (cVar 5)))
  (cSet 3 (cVar 5))))))
  (cRet (cVar 2)))))
noncomputable def F__law_rows : List SV → Store → Option (SV × Store) := runF 8 g__law_rows

/-! ### draws -/
abbrev isI (s : SV) : Prop := ∃ i : Int, s = .d (.int i)
theorem rngL_get {lo : Int} {n i : Nat} {s : SV} (h : (rngL lo n)[i]? = some s) : i < n ∧ s = .d (.int (lo + i)) := by
  unfold rngL at h
  rw [List.getElem?_map] at h
  obtain ⟨j, h1, h2⟩ := Option.map_eq_some_iff.mp h
  obtain ⟨h3, h4⟩ := List.getElem?_eq_some_iff.mp h1
  simp at h3 h4
  subst h4
  exact ⟨h3, h2.symm⟩
theorem rngL_len (lo : Int) (n : Nat) : (rngL lo n).length = n := by simp [rngL]
theorem ints_of : ∀ {ss : List SV}, (∀ s ∈ ss, isI s) → ∃ ns : List Int, ss = (ns.map D.int).map SV.d
  | [], _ => ⟨[], rfl⟩
  | s :: r, h => by
    obtain ⟨i, rfl⟩ := h s (by simp)
    obtain ⟨ns, rfl⟩ := ints_of (ss := r) fun s hs => h s (List.mem_cons_of_mem _ hs)
    exact ⟨i :: ns, rfl⟩
theorem atI_lt {α : Type} {xs : List α} {i : Nat} (h : i < xs.length) : atI xs (i : Int) = some xs[i] := atI_nat (List.getElem?_eq_getElem h)
def okO (o : Option SV) : Prop := ∀ s, o = some s → isDat s = true
theorem okO_none : okO none := fun _ h => nomatch h
theorem okO_d (x : D) : okO (some (.d x)) := fun _ h => by cases h; rfl
theorem frzE_dat (m : Nat) (st : Store) : ∀ δ : DL.Env, (∀ o ∈ δ, okO o) → frzE m st δ = some δ
  | [], _ => rfl
  | none :: r, h => by rw [frzE_none, frzE_dat m st r fun o ho => h o (List.mem_cons_of_mem _ ho)]; rfl
  | some (.d x) :: r, h => by rw [frzE_some, frzE_dat m st r fun o ho => h o (List.mem_cons_of_mem _ ho)]; rfl
  | some (.r n) :: r, h => nomatch h (some (.r n)) (by simp) _ rfl
def DrI (ns : List Int) (m : Int) (n : Nat) (δ : DL.Env) (st : Store) : Prop := ∃ (mx : Int) (o4 o5 o6 o7 : Option SV) (ss : List SV), δ = [some (.d (.scr ns)), some (.d (.int m)), some (.r 0), some (.d (.int mx)), o4, o5, o6, o7] ∧ st = [.lst ss] ∧
  (∀ s ∈ ss, isI s) ∧ ss.length ≤ n ∧ 0 ≤ mx ∧ mx < 65537 ∧ ∀ o ∈ [o4, o5, o6, o7], okO o
theorem isI_snoc {ss : List SV} {i : Int} (h : ∀ s ∈ ss, isI s) : ∀ s ∈ ss ++ [SV.d (.int i)], isI s := fun s hs => (List.mem_append.mp hs).elim (h s) fun h => by simp at h; exact ⟨i, h⟩
theorem sp_draws (ns : List Int) (m : Int) (hn : ns.length ≤ 63) (h0 : 0 ≤ m) (hm : m ≤ 2000) : ∃ ds : List Int, F__law_draws [.d (.scr ns), .d (.int m)] [] = some (.d (.lst (ds.map .int)), []) := by
  have hl := line_big
  suffices h : Run (g__law_draws [some (.d (.scr ns)), some (.d (.int m)), none, none, none, none, none, none] []) fun p => ∃ (ds : List Int) (ss : List SV), p.1 = .rt (.d (.lst (ds.map .int))) ∧ p.2.2 = [.lst ss] ∧ frzE 0 [.lst ss] p.2.1 ≠ none by
    obtain ⟨⟨o, δ, st⟩, h1, ds, ss, h2, h3, h4⟩ := h
    dsimp only at h2 h3 h4
    subst h2 h3
    refine ⟨ds, ?_⟩
    obtain ⟨δ', e⟩ := Option.ne_none_iff_exists'.mp h4
    simp [F__law_draws, a_runF, List.replicate, h1, e]
  unfold g__law_draws
  simp -implicitDefEqProofs only [run_bind, run_some, run_none, run_map, a_var, a_c, a_op, a_un, a_chain, tst_b, a_test, a_and, a_or, a_not, a_andV, a_orV, a_notV, a_if, a_nil, a_cons, a_tup, a_lst, a_new, a_fn, a_isi, a_call, asI_i, a_part, a_noPart, a_cut, a_app, a_ext, a_index, a_sub, a_ps0, a_ps1, a_disp, a_lc, a_tt, a_skip, andThen_nx, andThen_rt, andThen_bk, andThen_ct, a_seq, a_expr, a_ret, a_retN, a_brk, a_cnt, a_ifS, a_set, a_aug, a_asg, two_eq, a_par, a_put, a_daug, a_for, a_scoped, frzO_nx, frzO_bk, frzO_ct, frzO_rt, frzS_d, frzS_r, frzE_nil, frzE_none, frzE_some, a_gN, a_gsNil, a_gsCons, a_gTp, asStr_s, a_strI, asRng_i, a_rng1, asRng2_i, a_rng2, chkOf_d, a_seqI, a_cYes, items_tup, items_lst, litems_lst, ditems_tup, ditems_lst, toD_d, dataAll_nil, dataAll_cons, dataAll_mapd, asD_d, v_ii, v_addI, v_addS, v_addT, v_addL, v_neg, v_ltI, v_ltS, v_eq, v_ne, v_inS, v_notInS, v_ixS, v_ixR, v_ixT, v_ixL, v_cutS, v_cutT, v_cutL, v_lenS, v_lenR, v_lenT, v_lenL, v_abs, v_int1, v_listT, v_listL, v_tupleT, v_tupleL, v_isN, v_notN, isN_non, isN_r, isN_bl, isN_int, isN_str, isN_tup, isN_lst, ty_non, ty_bl, ty_int, ty_str, ty_tup, ty_lst, keyOf_i, keyOf_s, gAddI_i, gSubI_i, index_s, idxKind_s, isDat_d, isDat_r, svB_d, svB_r, moB_lst, moB_dk, natAbs10, asL_l, asK_k, itL_l, liL_l, tdL_l, tdL_k, dsL_k, dsL_l, tyL_l, tyL_k, lstAt_r, dkAt_r, items_r, litems_r, toD_r, dkS_r, dkS_tup, dkS_lst, dkS_dk, dkS_str, tyS_r, v_ixRef, v_lenRef, v_cutRef, ditems_r, v_listRef, v_tupleRef, v_eqRef, v_neRef, v_addRR, v_addRL, v_addLR, finO_nx, finO_rt, finO_bk, finO_ct, isTy_int_NoneType, isTy_int_bool, isTy_int_int, isTy_int_str, isTy_int_tuple, isTy_int_list, isTy_int_dict, isTy_bool_NoneType, isTy_bool_bool, isTy_bool_int, isTy_bool_str, isTy_bool_tuple, isTy_bool_list, isTy_bool_dict, isTy_str_NoneType, isTy_str_bool, isTy_str_int, isTy_str_str, isTy_str_tuple, isTy_str_list, isTy_str_dict, isTy_tuple_NoneType, isTy_tuple_bool, isTy_tuple_int, isTy_tuple_str, isTy_tuple_tuple, isTy_tuple_list, isTy_tuple_dict, isTy_list_NoneType, isTy_list_bool, isTy_list_int, isTy_list_str, isTy_list_tuple, isTy_list_list, isTy_list_dict, isTy_dict_NoneType, isTy_dict_bool, isTy_dict_int, isTy_dict_str, isTy_dict_tuple, isTy_dict_list, isTy_dict_dict, eo_non, eo_bl, eo_int, eo_str, eo_tup, eo_lst, ev_nn, ev_ii, ev_bb, ev_ss, ev_tt, ev_ll, ea_nn, ea_nc, ea_cn, ea_cc, ea_mapd, ev_non_bl, ev_non_int, ev_non_str, ev_non_tup, ev_non_lst, ev_bl_non, ev_bl_str, ev_bl_tup, ev_bl_lst, ev_int_non, ev_int_str, ev_int_tup, ev_int_lst, ev_str_non, ev_str_bl, ev_str_int, ev_str_tup, ev_str_lst, ev_tup_non, ev_tup_bl, ev_tup_int, ev_tup_str, ev_tup_lst, ev_lst_non, ev_lst_bl, ev_lst_int, ev_lst_str, ev_lst_tup, wipeE_nil, wipeE_cons, cast_0, cast_1, cast_2, cast_3, cast_4, cast_5, cast_6, cast_7, cast_8, cast_9, cast_10, cast_11, cast_12, keysOf_nil, keysOf_cons, mergeS_nil, mergeS_cons, inR_s, sz_lt, sz_le, leq_nn, leq_nc, leq_cn, leq_cc, key_ss, key_ii, key_is, key_si, findK_nil, findK_cons, mapS_nil, mapS_cons, putS_nil, putS_cons, Option.bind_some, Option.map_some, Option.bind_none, Option.map_none, List.set_cons_zero, List.set_cons_succ, List.set_nil, List.getElem?_cons_zero, List.getElem?_cons_succ, List.length_cons, List.length_nil, List.nil_append, List.cons_append, List.map_cons, List.map_nil, if_true, if_false, Bool.false_eq_true, reduceIte, List.all_cons, List.all_nil, Bool.and_true, Bool.true_and, Bool.and_false, Bool.false_and, Bool.not_true, Bool.not_false, Bool.or_false, Bool.or_true, Bool.false_or, Bool.true_or, and_self, and_true, true_and, Int.toNat_natCast, decide_true, decide_false, List.take_zero, List.take_nil, List.take_succ_cons, List.drop_succ_cons, List.drop_zero, List.drop_nil, List.set_nil, List.replicate_succ, List.replicate_zero, List.foldl_cons, List.foldl_nil, Nat.reduceSub, Nat.reduceAdd, Nat.reduceLT, Nat.reduceLeDiff, Nat.reduceEqDiff, Nat.reduceMul, Int.reduceAdd, Int.reduceSub, Int.reduceMul, Int.reduceLT, Int.reduceLE, Int.reduceNeg, Int.reducePow, Int.reduceToNat, or_true, true_or, or_false, false_or, false_and, and_false, Nat.reducePow, not_true_eq_false, not_false_eq_true, Nat.add_zero, Nat.zero_add, Nat.sub_self, Nat.sub_zero, reduceCtorEq, Option.map_map, Int.reduceEq, Int.reduceNe, Int.reduceMod, Int.reduceDiv, List.append_nil]
  have hr : inR (ns.length : Int) = true := by
    unfold inR
    exact decide_eq_true (by omega)
  simp -implicitDefEqProofs only [run_bind, run_some, run_none, run_map, a_var, a_c, a_op, a_un, a_chain, tst_b, a_test, a_and, a_or, a_not, a_andV, a_orV, a_notV, a_if, a_nil, a_cons, a_tup, a_lst, a_new, a_fn, a_isi, a_call, asI_i, a_part, a_noPart, a_cut, a_app, a_ext, a_index, a_sub, a_ps0, a_ps1, a_disp, a_lc, a_tt, a_skip, andThen_nx, andThen_rt, andThen_bk, andThen_ct, a_seq, a_expr, a_ret, a_retN, a_brk, a_cnt, a_ifS, a_set, a_aug, a_asg, two_eq, a_par, a_put, a_daug, a_for, a_scoped, frzO_nx, frzO_bk, frzO_ct, frzO_rt, frzS_d, frzS_r, frzE_nil, frzE_none, frzE_some, a_gN, a_gsNil, a_gsCons, a_gTp, asStr_s, a_strI, asRng_i, a_rng1, asRng2_i, a_rng2, chkOf_d, a_seqI, a_cYes, items_tup, items_lst, litems_lst, ditems_tup, ditems_lst, toD_d, dataAll_nil, dataAll_cons, dataAll_mapd, asD_d, v_ii, v_addI, v_addS, v_addT, v_addL, v_neg, v_ltI, v_ltS, v_eq, v_ne, v_inS, v_notInS, v_ixS, v_ixR, v_ixT, v_ixL, v_cutS, v_cutT, v_cutL, v_lenS, v_lenR, v_lenT, v_lenL, v_abs, v_int1, v_listT, v_listL, v_tupleT, v_tupleL, v_isN, v_notN, isN_non, isN_r, isN_bl, isN_int, isN_str, isN_tup, isN_lst, ty_non, ty_bl, ty_int, ty_str, ty_tup, ty_lst, keyOf_i, keyOf_s, gAddI_i, gSubI_i, index_s, idxKind_s, isDat_d, isDat_r, svB_d, svB_r, moB_lst, moB_dk, natAbs10, asL_l, asK_k, itL_l, liL_l, tdL_l, tdL_k, dsL_k, dsL_l, tyL_l, tyL_k, lstAt_r, dkAt_r, items_r, litems_r, toD_r, dkS_r, dkS_tup, dkS_lst, dkS_dk, dkS_str, tyS_r, v_ixRef, v_lenRef, v_cutRef, ditems_r, v_listRef, v_tupleRef, v_eqRef, v_neRef, v_addRR, v_addRL, v_addLR, finO_nx, finO_rt, finO_bk, finO_ct, isTy_int_NoneType, isTy_int_bool, isTy_int_int, isTy_int_str, isTy_int_tuple, isTy_int_list, isTy_int_dict, isTy_bool_NoneType, isTy_bool_bool, isTy_bool_int, isTy_bool_str, isTy_bool_tuple, isTy_bool_list, isTy_bool_dict, isTy_str_NoneType, isTy_str_bool, isTy_str_int, isTy_str_str, isTy_str_tuple, isTy_str_list, isTy_str_dict, isTy_tuple_NoneType, isTy_tuple_bool, isTy_tuple_int, isTy_tuple_str, isTy_tuple_tuple, isTy_tuple_list, isTy_tuple_dict, isTy_list_NoneType, isTy_list_bool, isTy_list_int, isTy_list_str, isTy_list_tuple, isTy_list_list, isTy_list_dict, isTy_dict_NoneType, isTy_dict_bool, isTy_dict_int, isTy_dict_str, isTy_dict_tuple, isTy_dict_list, isTy_dict_dict, eo_non, eo_bl, eo_int, eo_str, eo_tup, eo_lst, ev_nn, ev_ii, ev_bb, ev_ss, ev_tt, ev_ll, ea_nn, ea_nc, ea_cn, ea_cc, ea_mapd, ev_non_bl, ev_non_int, ev_non_str, ev_non_tup, ev_non_lst, ev_bl_non, ev_bl_str, ev_bl_tup, ev_bl_lst, ev_int_non, ev_int_str, ev_int_tup, ev_int_lst, ev_str_non, ev_str_bl, ev_str_int, ev_str_tup, ev_str_lst, ev_tup_non, ev_tup_bl, ev_tup_int, ev_tup_str, ev_tup_lst, ev_lst_non, ev_lst_bl, ev_lst_int, ev_lst_str, ev_lst_tup, wipeE_nil, wipeE_cons, cast_0, cast_1, cast_2, cast_3, cast_4, cast_5, cast_6, cast_7, cast_8, cast_9, cast_10, cast_11, cast_12, keysOf_nil, keysOf_cons, mergeS_nil, mergeS_cons, inR_s, sz_lt, sz_le, leq_nn, leq_nc, leq_cn, leq_cc, key_ss, key_ii, key_is, key_si, findK_nil, findK_cons, mapS_nil, mapS_cons, putS_nil, putS_cons, Option.bind_some, Option.map_some, Option.bind_none, Option.map_none, List.set_cons_zero, List.set_cons_succ, List.set_nil, List.getElem?_cons_zero, List.getElem?_cons_succ, List.length_cons, List.length_nil, List.nil_append, List.cons_append, List.map_cons, List.map_nil, if_true, if_false, Bool.false_eq_true, reduceIte, List.all_cons, List.all_nil, Bool.and_true, Bool.true_and, Bool.and_false, Bool.false_and, Bool.not_true, Bool.not_false, Bool.or_false, Bool.or_true, Bool.false_or, Bool.true_or, and_self, and_true, true_and, Int.toNat_natCast, decide_true, decide_false, List.take_zero, List.take_nil, List.take_succ_cons, List.drop_succ_cons, List.drop_zero, List.drop_nil, List.set_nil, List.replicate_succ, List.replicate_zero, List.foldl_cons, List.foldl_nil, Nat.reduceSub, Nat.reduceAdd, Nat.reduceLT, Nat.reduceLeDiff, Nat.reduceEqDiff, Nat.reduceMul, Int.reduceAdd, Int.reduceSub, Int.reduceMul, Int.reduceLT, Int.reduceLE, Int.reduceNeg, Int.reducePow, Int.reduceToNat, or_true, true_or, or_false, false_or, false_and, and_false, Nat.reducePow, not_true_eq_false, not_false_eq_true, Nat.add_zero, Nat.zero_add, Nat.sub_self, Nat.sub_zero, reduceCtorEq, Option.map_map, Int.reduceEq, Int.reduceNe, Int.reduceMod, Int.reduceDiv, List.append_nil, hr]
  refine forL_wp _ (fun i => DrI ns m (62 * i)) (R := fun p => p.1 = .nx ∧ DrI ns m (62 * ns.length) p.2.1 p.2.2) ⟨7, none, none, none, none, [], rfl, rfl, by simp, by simp, by omega, by omega, by simp [okO_none]⟩ ?_ (fun δ st h => ⟨rfl, by rw [rngL_len] at h; exact h⟩) |>.mono ?_
  · rintro i s δ st hs ⟨mx, o4, o5, o6, o7, ss, rfl, rfl, hI, hz, m0, m1, hO⟩
    obtain ⟨hi, rfl⟩ := rngL_get hs
    rw [Int.zero_add]
    simp -implicitDefEqProofs only [run_bind, run_some, run_none, run_map, a_var, a_c, a_op, a_un, a_chain, tst_b, a_test, a_and, a_or, a_not, a_andV, a_orV, a_notV, a_if, a_nil, a_cons, a_tup, a_lst, a_new, a_fn, a_isi, a_call, asI_i, a_part, a_noPart, a_cut, a_app, a_ext, a_index, a_sub, a_ps0, a_ps1, a_disp, a_lc, a_tt, a_skip, andThen_nx, andThen_rt, andThen_bk, andThen_ct, a_seq, a_expr, a_ret, a_retN, a_brk, a_cnt, a_ifS, a_set, a_aug, a_asg, two_eq, a_par, a_put, a_daug, a_for, a_scoped, frzO_nx, frzO_bk, frzO_ct, frzO_rt, frzS_d, frzS_r, frzE_nil, frzE_none, frzE_some, a_gN, a_gsNil, a_gsCons, a_gTp, asStr_s, a_strI, asRng_i, a_rng1, asRng2_i, a_rng2, chkOf_d, a_seqI, a_cYes, items_tup, items_lst, litems_lst, ditems_tup, ditems_lst, toD_d, dataAll_nil, dataAll_cons, dataAll_mapd, asD_d, v_ii, v_addI, v_addS, v_addT, v_addL, v_neg, v_ltI, v_ltS, v_eq, v_ne, v_inS, v_notInS, v_ixS, v_ixR, v_ixT, v_ixL, v_cutS, v_cutT, v_cutL, v_lenS, v_lenR, v_lenT, v_lenL, v_abs, v_int1, v_listT, v_listL, v_tupleT, v_tupleL, v_isN, v_notN, isN_non, isN_r, isN_bl, isN_int, isN_str, isN_tup, isN_lst, ty_non, ty_bl, ty_int, ty_str, ty_tup, ty_lst, keyOf_i, keyOf_s, gAddI_i, gSubI_i, index_s, idxKind_s, isDat_d, isDat_r, svB_d, svB_r, moB_lst, moB_dk, natAbs10, asL_l, asK_k, itL_l, liL_l, tdL_l, tdL_k, dsL_k, dsL_l, tyL_l, tyL_k, lstAt_r, dkAt_r, items_r, litems_r, toD_r, dkS_r, dkS_tup, dkS_lst, dkS_dk, dkS_str, tyS_r, v_ixRef, v_lenRef, v_cutRef, ditems_r, v_listRef, v_tupleRef, v_eqRef, v_neRef, v_addRR, v_addRL, v_addLR, finO_nx, finO_rt, finO_bk, finO_ct, isTy_int_NoneType, isTy_int_bool, isTy_int_int, isTy_int_str, isTy_int_tuple, isTy_int_list, isTy_int_dict, isTy_bool_NoneType, isTy_bool_bool, isTy_bool_int, isTy_bool_str, isTy_bool_tuple, isTy_bool_list, isTy_bool_dict, isTy_str_NoneType, isTy_str_bool, isTy_str_int, isTy_str_str, isTy_str_tuple, isTy_str_list, isTy_str_dict, isTy_tuple_NoneType, isTy_tuple_bool, isTy_tuple_int, isTy_tuple_str, isTy_tuple_tuple, isTy_tuple_list, isTy_tuple_dict, isTy_list_NoneType, isTy_list_bool, isTy_list_int, isTy_list_str, isTy_list_tuple, isTy_list_list, isTy_list_dict, isTy_dict_NoneType, isTy_dict_bool, isTy_dict_int, isTy_dict_str, isTy_dict_tuple, isTy_dict_list, isTy_dict_dict, eo_non, eo_bl, eo_int, eo_str, eo_tup, eo_lst, ev_nn, ev_ii, ev_bb, ev_ss, ev_tt, ev_ll, ea_nn, ea_nc, ea_cn, ea_cc, ea_mapd, ev_non_bl, ev_non_int, ev_non_str, ev_non_tup, ev_non_lst, ev_bl_non, ev_bl_str, ev_bl_tup, ev_bl_lst, ev_int_non, ev_int_str, ev_int_tup, ev_int_lst, ev_str_non, ev_str_bl, ev_str_int, ev_str_tup, ev_str_lst, ev_tup_non, ev_tup_bl, ev_tup_int, ev_tup_str, ev_tup_lst, ev_lst_non, ev_lst_bl, ev_lst_int, ev_lst_str, ev_lst_tup, wipeE_nil, wipeE_cons, cast_0, cast_1, cast_2, cast_3, cast_4, cast_5, cast_6, cast_7, cast_8, cast_9, cast_10, cast_11, cast_12, keysOf_nil, keysOf_cons, mergeS_nil, mergeS_cons, inR_s, sz_lt, sz_le, leq_nn, leq_nc, leq_cn, leq_cc, key_ss, key_ii, key_is, key_si, findK_nil, findK_cons, mapS_nil, mapS_cons, putS_nil, putS_cons, Option.bind_some, Option.map_some, Option.bind_none, Option.map_none, List.set_cons_zero, List.set_cons_succ, List.set_nil, List.getElem?_cons_zero, List.getElem?_cons_succ, List.length_cons, List.length_nil, List.nil_append, List.cons_append, List.map_cons, List.map_nil, if_true, if_false, Bool.false_eq_true, reduceIte, List.all_cons, List.all_nil, Bool.and_true, Bool.true_and, Bool.and_false, Bool.false_and, Bool.not_true, Bool.not_false, Bool.or_false, Bool.or_true, Bool.false_or, Bool.true_or, and_self, and_true, true_and, Int.toNat_natCast, decide_true, decide_false, List.take_zero, List.take_nil, List.take_succ_cons, List.drop_succ_cons, List.drop_zero, List.drop_nil, List.set_nil, List.replicate_succ, List.replicate_zero, List.foldl_cons, List.foldl_nil, Nat.reduceSub, Nat.reduceAdd, Nat.reduceLT, Nat.reduceLeDiff, Nat.reduceEqDiff, Nat.reduceMul, Int.reduceAdd, Int.reduceSub, Int.reduceMul, Int.reduceLT, Int.reduceLE, Int.reduceNeg, Int.reducePow, Int.reduceToNat, or_true, true_or, or_false, false_or, false_and, and_false, Nat.reducePow, not_true_eq_false, not_false_eq_true, Nat.add_zero, Nat.zero_add, Nat.sub_self, Nat.sub_zero, reduceCtorEq, Option.map_map, Int.reduceEq, Int.reduceNe, Int.reduceMod, Int.reduceDiv, List.append_nil, atI_lt hi]
    generalize hc : (if ns[i] < 0 then -ns[i] else ns[i]) = c
    generalize hm' : (mx * 48271 + c % 1000003 + (i : Int)) % 65537 = mx'
    have m0' : 0 ≤ mx' := by omega
    have m1' : mx' < 65537 := by omega
    -- the draws of the cell itself
    have h60 : inR 60 = true := by decide
    have fin : ∀ (r : Int) (ss' : List SV), (∀ s ∈ ss', isI s) → ss'.length ≤ 62 * i + 2 → DL.Run (forL cYes (gN 7) (cIfS (cTest (cOp dGt (cVar 6) (cC (.int 0)))) (cSeq (cExpr (cApp (cVar 2) (cOp dMod (cFn dInt1 (cCons (cVar 6) cNil)) (cC (.int 997))))) (cSet 6 (cOp dFdiv (cVar 6) (cC (.int 997))))) cSkip) (rngL 0 60)
        [some (.d (.scr ns)), some (.d (.int m)), some (.r 0), some (.d (.int mx')), some (.d (.int i)), some (.d (.int c)), some (.d (.int r)), o7] [.lst ss']) fun p => p.1 = .nx ∧ DrI ns m (62 * (i + 1)) p.2.1 p.2.2 := by
      intro r ss' hI' hz'
      refine (forL_wp _ (fun j δ st => ∃ (r : Int) (o7 : Option SV) (ss' : List SV), δ = [some (.d (.scr ns)), some (.d (.int m)), some (.r 0), some (.d (.int mx')), some (.d (.int i)), some (.d (.int c)), some (.d (.int r)), o7] ∧ st = [.lst ss'] ∧ (∀ s ∈ ss', isI s) ∧ ss'.length ≤ 62 * i + 2 + j ∧ okO o7)
        (R := fun p => p.1 = .nx ∧ DrI ns m (62 * (i + 1)) p.2.1 p.2.2) ⟨r, o7, ss', rfl, rfl, hI', by omega, hO o7 (by simp)⟩ ?_ (fun δ st h => ?_))
      · rintro j s δ st hs ⟨r, o7, ss', rfl, rfl, hI', hz', hO'⟩
        obtain ⟨hj, rfl⟩ := rngL_get hs
        have hj : j < 60 := hj
        simp -implicitDefEqProofs only [run_bind, run_some, run_none, run_map, a_var, a_c, a_op, a_un, a_chain, tst_b, a_test, a_and, a_or, a_not, a_andV, a_orV, a_notV, a_if, a_nil, a_cons, a_tup, a_lst, a_new, a_fn, a_isi, a_call, asI_i, a_part, a_noPart, a_cut, a_app, a_ext, a_index, a_sub, a_ps0, a_ps1, a_disp, a_lc, a_tt, a_skip, andThen_nx, andThen_rt, andThen_bk, andThen_ct, a_seq, a_expr, a_ret, a_retN, a_brk, a_cnt, a_ifS, a_set, a_aug, a_asg, two_eq, a_par, a_put, a_daug, a_for, a_scoped, frzO_nx, frzO_bk, frzO_ct, frzO_rt, frzS_d, frzS_r, frzE_nil, frzE_none, frzE_some, a_gN, a_gsNil, a_gsCons, a_gTp, asStr_s, a_strI, asRng_i, a_rng1, asRng2_i, a_rng2, chkOf_d, a_seqI, a_cYes, items_tup, items_lst, litems_lst, ditems_tup, ditems_lst, toD_d, dataAll_nil, dataAll_cons, dataAll_mapd, asD_d, v_ii, v_addI, v_addS, v_addT, v_addL, v_neg, v_ltI, v_ltS, v_eq, v_ne, v_inS, v_notInS, v_ixS, v_ixR, v_ixT, v_ixL, v_cutS, v_cutT, v_cutL, v_lenS, v_lenR, v_lenT, v_lenL, v_abs, v_int1, v_listT, v_listL, v_tupleT, v_tupleL, v_isN, v_notN, isN_non, isN_r, isN_bl, isN_int, isN_str, isN_tup, isN_lst, ty_non, ty_bl, ty_int, ty_str, ty_tup, ty_lst, keyOf_i, keyOf_s, gAddI_i, gSubI_i, index_s, idxKind_s, isDat_d, isDat_r, svB_d, svB_r, moB_lst, moB_dk, natAbs10, asL_l, asK_k, itL_l, liL_l, tdL_l, tdL_k, dsL_k, dsL_l, tyL_l, tyL_k, lstAt_r, dkAt_r, items_r, litems_r, toD_r, dkS_r, dkS_tup, dkS_lst, dkS_dk, dkS_str, tyS_r, v_ixRef, v_lenRef, v_cutRef, ditems_r, v_listRef, v_tupleRef, v_eqRef, v_neRef, v_addRR, v_addRL, v_addLR, finO_nx, finO_rt, finO_bk, finO_ct, isTy_int_NoneType, isTy_int_bool, isTy_int_int, isTy_int_str, isTy_int_tuple, isTy_int_list, isTy_int_dict, isTy_bool_NoneType, isTy_bool_bool, isTy_bool_int, isTy_bool_str, isTy_bool_tuple, isTy_bool_list, isTy_bool_dict, isTy_str_NoneType, isTy_str_bool, isTy_str_int, isTy_str_str, isTy_str_tuple, isTy_str_list, isTy_str_dict, isTy_tuple_NoneType, isTy_tuple_bool, isTy_tuple_int, isTy_tuple_str, isTy_tuple_tuple, isTy_tuple_list, isTy_tuple_dict, isTy_list_NoneType, isTy_list_bool, isTy_list_int, isTy_list_str, isTy_list_tuple, isTy_list_list, isTy_list_dict, isTy_dict_NoneType, isTy_dict_bool, isTy_dict_int, isTy_dict_str, isTy_dict_tuple, isTy_dict_list, isTy_dict_dict, eo_non, eo_bl, eo_int, eo_str, eo_tup, eo_lst, ev_nn, ev_ii, ev_bb, ev_ss, ev_tt, ev_ll, ea_nn, ea_nc, ea_cn, ea_cc, ea_mapd, ev_non_bl, ev_non_int, ev_non_str, ev_non_tup, ev_non_lst, ev_bl_non, ev_bl_str, ev_bl_tup, ev_bl_lst, ev_int_non, ev_int_str, ev_int_tup, ev_int_lst, ev_str_non, ev_str_bl, ev_str_int, ev_str_tup, ev_str_lst, ev_tup_non, ev_tup_bl, ev_tup_int, ev_tup_str, ev_tup_lst, ev_lst_non, ev_lst_bl, ev_lst_int, ev_lst_str, ev_lst_tup, wipeE_nil, wipeE_cons, cast_0, cast_1, cast_2, cast_3, cast_4, cast_5, cast_6, cast_7, cast_8, cast_9, cast_10, cast_11, cast_12, keysOf_nil, keysOf_cons, mergeS_nil, mergeS_cons, inR_s, sz_lt, sz_le, leq_nn, leq_nc, leq_cn, leq_cc, key_ss, key_ii, key_is, key_si, findK_nil, findK_cons, mapS_nil, mapS_cons, putS_nil, putS_cons, Option.bind_some, Option.map_some, Option.bind_none, Option.map_none, List.set_cons_zero, List.set_cons_succ, List.set_nil, List.getElem?_cons_zero, List.getElem?_cons_succ, List.length_cons, List.length_nil, List.nil_append, List.cons_append, List.map_cons, List.map_nil, if_true, if_false, Bool.false_eq_true, reduceIte, List.all_cons, List.all_nil, Bool.and_true, Bool.true_and, Bool.and_false, Bool.false_and, Bool.not_true, Bool.not_false, Bool.or_false, Bool.or_true, Bool.false_or, Bool.true_or, and_self, and_true, true_and, Int.toNat_natCast, decide_true, decide_false, List.take_zero, List.take_nil, List.take_succ_cons, List.drop_succ_cons, List.drop_zero, List.drop_nil, List.set_nil, List.replicate_succ, List.replicate_zero, List.foldl_cons, List.foldl_nil, Nat.reduceSub, Nat.reduceAdd, Nat.reduceLT, Nat.reduceLeDiff, Nat.reduceEqDiff, Nat.reduceMul, Int.reduceAdd, Int.reduceSub, Int.reduceMul, Int.reduceLT, Int.reduceLE, Int.reduceNeg, Int.reducePow, Int.reduceToNat, or_true, true_or, or_false, false_or, false_and, and_false, Nat.reducePow, not_true_eq_false, not_false_eq_true, Nat.add_zero, Nat.zero_add, Nat.sub_self, Nat.sub_zero, reduceCtorEq, Option.map_map, Int.reduceEq, Int.reduceNe, Int.reduceMod, Int.reduceDiv, List.append_nil]
        refine run_ite (fun hc => ?_) (fun hc => ?_)
        · simp -implicitDefEqProofs only [run_bind, run_some, run_none, run_map, a_var, a_c, a_op, a_un, a_chain, tst_b, a_test, a_and, a_or, a_not, a_andV, a_orV, a_notV, a_if, a_nil, a_cons, a_tup, a_lst, a_new, a_fn, a_isi, a_call, asI_i, a_part, a_noPart, a_cut, a_app, a_ext, a_index, a_sub, a_ps0, a_ps1, a_disp, a_lc, a_tt, a_skip, andThen_nx, andThen_rt, andThen_bk, andThen_ct, a_seq, a_expr, a_ret, a_retN, a_brk, a_cnt, a_ifS, a_set, a_aug, a_asg, two_eq, a_par, a_put, a_daug, a_for, a_scoped, frzO_nx, frzO_bk, frzO_ct, frzO_rt, frzS_d, frzS_r, frzE_nil, frzE_none, frzE_some, a_gN, a_gsNil, a_gsCons, a_gTp, asStr_s, a_strI, asRng_i, a_rng1, asRng2_i, a_rng2, chkOf_d, a_seqI, a_cYes, items_tup, items_lst, litems_lst, ditems_tup, ditems_lst, toD_d, dataAll_nil, dataAll_cons, dataAll_mapd, asD_d, v_ii, v_addI, v_addS, v_addT, v_addL, v_neg, v_ltI, v_ltS, v_eq, v_ne, v_inS, v_notInS, v_ixS, v_ixR, v_ixT, v_ixL, v_cutS, v_cutT, v_cutL, v_lenS, v_lenR, v_lenT, v_lenL, v_abs, v_int1, v_listT, v_listL, v_tupleT, v_tupleL, v_isN, v_notN, isN_non, isN_r, isN_bl, isN_int, isN_str, isN_tup, isN_lst, ty_non, ty_bl, ty_int, ty_str, ty_tup, ty_lst, keyOf_i, keyOf_s, gAddI_i, gSubI_i, index_s, idxKind_s, isDat_d, isDat_r, svB_d, svB_r, moB_lst, moB_dk, natAbs10, asL_l, asK_k, itL_l, liL_l, tdL_l, tdL_k, dsL_k, dsL_l, tyL_l, tyL_k, lstAt_r, dkAt_r, items_r, litems_r, toD_r, dkS_r, dkS_tup, dkS_lst, dkS_dk, dkS_str, tyS_r, v_ixRef, v_lenRef, v_cutRef, ditems_r, v_listRef, v_tupleRef, v_eqRef, v_neRef, v_addRR, v_addRL, v_addLR, finO_nx, finO_rt, finO_bk, finO_ct, isTy_int_NoneType, isTy_int_bool, isTy_int_int, isTy_int_str, isTy_int_tuple, isTy_int_list, isTy_int_dict, isTy_bool_NoneType, isTy_bool_bool, isTy_bool_int, isTy_bool_str, isTy_bool_tuple, isTy_bool_list, isTy_bool_dict, isTy_str_NoneType, isTy_str_bool, isTy_str_int, isTy_str_str, isTy_str_tuple, isTy_str_list, isTy_str_dict, isTy_tuple_NoneType, isTy_tuple_bool, isTy_tuple_int, isTy_tuple_str, isTy_tuple_tuple, isTy_tuple_list, isTy_tuple_dict, isTy_list_NoneType, isTy_list_bool, isTy_list_int, isTy_list_str, isTy_list_tuple, isTy_list_list, isTy_list_dict, isTy_dict_NoneType, isTy_dict_bool, isTy_dict_int, isTy_dict_str, isTy_dict_tuple, isTy_dict_list, isTy_dict_dict, eo_non, eo_bl, eo_int, eo_str, eo_tup, eo_lst, ev_nn, ev_ii, ev_bb, ev_ss, ev_tt, ev_ll, ea_nn, ea_nc, ea_cn, ea_cc, ea_mapd, ev_non_bl, ev_non_int, ev_non_str, ev_non_tup, ev_non_lst, ev_bl_non, ev_bl_str, ev_bl_tup, ev_bl_lst, ev_int_non, ev_int_str, ev_int_tup, ev_int_lst, ev_str_non, ev_str_bl, ev_str_int, ev_str_tup, ev_str_lst, ev_tup_non, ev_tup_bl, ev_tup_int, ev_tup_str, ev_tup_lst, ev_lst_non, ev_lst_bl, ev_lst_int, ev_lst_str, ev_lst_tup, wipeE_nil, wipeE_cons, cast_0, cast_1, cast_2, cast_3, cast_4, cast_5, cast_6, cast_7, cast_8, cast_9, cast_10, cast_11, cast_12, keysOf_nil, keysOf_cons, mergeS_nil, mergeS_cons, inR_s, sz_lt, sz_le, leq_nn, leq_nc, leq_cn, leq_cc, key_ss, key_ii, key_is, key_si, findK_nil, findK_cons, mapS_nil, mapS_cons, putS_nil, putS_cons, Option.bind_some, Option.map_some, Option.bind_none, Option.map_none, List.set_cons_zero, List.set_cons_succ, List.set_nil, List.getElem?_cons_zero, List.getElem?_cons_succ, List.length_cons, List.length_nil, List.nil_append, List.cons_append, List.map_cons, List.map_nil, if_true, if_false, Bool.false_eq_true, reduceIte, List.all_cons, List.all_nil, Bool.and_true, Bool.true_and, Bool.and_false, Bool.false_and, Bool.not_true, Bool.not_false, Bool.or_false, Bool.or_true, Bool.false_or, Bool.true_or, and_self, and_true, true_and, Int.toNat_natCast, decide_true, decide_false, List.take_zero, List.take_nil, List.take_succ_cons, List.drop_succ_cons, List.drop_zero, List.drop_nil, List.set_nil, List.replicate_succ, List.replicate_zero, List.foldl_cons, List.foldl_nil, Nat.reduceSub, Nat.reduceAdd, Nat.reduceLT, Nat.reduceLeDiff, Nat.reduceEqDiff, Nat.reduceMul, Int.reduceAdd, Int.reduceSub, Int.reduceMul, Int.reduceLT, Int.reduceLE, Int.reduceNeg, Int.reducePow, Int.reduceToNat, or_true, true_or, or_false, false_or, false_and, and_false, Nat.reducePow, not_true_eq_false, not_false_eq_true, Nat.add_zero, Nat.zero_add, Nat.sub_self, Nat.sub_zero, reduceCtorEq, Option.map_map, Int.reduceEq, Int.reduceNe, Int.reduceMod, Int.reduceDiv, List.append_nil]
          rw [if_pos (by omega)]
          simp -implicitDefEqProofs only [run_bind, run_some, run_none, run_map, a_var, a_c, a_op, a_un, a_chain, tst_b, a_test, a_and, a_or, a_not, a_andV, a_orV, a_notV, a_if, a_nil, a_cons, a_tup, a_lst, a_new, a_fn, a_isi, a_call, asI_i, a_part, a_noPart, a_cut, a_app, a_ext, a_index, a_sub, a_ps0, a_ps1, a_disp, a_lc, a_tt, a_skip, andThen_nx, andThen_rt, andThen_bk, andThen_ct, a_seq, a_expr, a_ret, a_retN, a_brk, a_cnt, a_ifS, a_set, a_aug, a_asg, two_eq, a_par, a_put, a_daug, a_for, a_scoped, frzO_nx, frzO_bk, frzO_ct, frzO_rt, frzS_d, frzS_r, frzE_nil, frzE_none, frzE_some, a_gN, a_gsNil, a_gsCons, a_gTp, asStr_s, a_strI, asRng_i, a_rng1, asRng2_i, a_rng2, chkOf_d, a_seqI, a_cYes, items_tup, items_lst, litems_lst, ditems_tup, ditems_lst, toD_d, dataAll_nil, dataAll_cons, dataAll_mapd, asD_d, v_ii, v_addI, v_addS, v_addT, v_addL, v_neg, v_ltI, v_ltS, v_eq, v_ne, v_inS, v_notInS, v_ixS, v_ixR, v_ixT, v_ixL, v_cutS, v_cutT, v_cutL, v_lenS, v_lenR, v_lenT, v_lenL, v_abs, v_int1, v_listT, v_listL, v_tupleT, v_tupleL, v_isN, v_notN, isN_non, isN_r, isN_bl, isN_int, isN_str, isN_tup, isN_lst, ty_non, ty_bl, ty_int, ty_str, ty_tup, ty_lst, keyOf_i, keyOf_s, gAddI_i, gSubI_i, index_s, idxKind_s, isDat_d, isDat_r, svB_d, svB_r, moB_lst, moB_dk, natAbs10, asL_l, asK_k, itL_l, liL_l, tdL_l, tdL_k, dsL_k, dsL_l, tyL_l, tyL_k, lstAt_r, dkAt_r, items_r, litems_r, toD_r, dkS_r, dkS_tup, dkS_lst, dkS_dk, dkS_str, tyS_r, v_ixRef, v_lenRef, v_cutRef, ditems_r, v_listRef, v_tupleRef, v_eqRef, v_neRef, v_addRR, v_addRL, v_addLR, finO_nx, finO_rt, finO_bk, finO_ct, isTy_int_NoneType, isTy_int_bool, isTy_int_int, isTy_int_str, isTy_int_tuple, isTy_int_list, isTy_int_dict, isTy_bool_NoneType, isTy_bool_bool, isTy_bool_int, isTy_bool_str, isTy_bool_tuple, isTy_bool_list, isTy_bool_dict, isTy_str_NoneType, isTy_str_bool, isTy_str_int, isTy_str_str, isTy_str_tuple, isTy_str_list, isTy_str_dict, isTy_tuple_NoneType, isTy_tuple_bool, isTy_tuple_int, isTy_tuple_str, isTy_tuple_tuple, isTy_tuple_list, isTy_tuple_dict, isTy_list_NoneType, isTy_list_bool, isTy_list_int, isTy_list_str, isTy_list_tuple, isTy_list_list, isTy_list_dict, isTy_dict_NoneType, isTy_dict_bool, isTy_dict_int, isTy_dict_str, isTy_dict_tuple, isTy_dict_list, isTy_dict_dict, eo_non, eo_bl, eo_int, eo_str, eo_tup, eo_lst, ev_nn, ev_ii, ev_bb, ev_ss, ev_tt, ev_ll, ea_nn, ea_nc, ea_cn, ea_cc, ea_mapd, ev_non_bl, ev_non_int, ev_non_str, ev_non_tup, ev_non_lst, ev_bl_non, ev_bl_str, ev_bl_tup, ev_bl_lst, ev_int_non, ev_int_str, ev_int_tup, ev_int_lst, ev_str_non, ev_str_bl, ev_str_int, ev_str_tup, ev_str_lst, ev_tup_non, ev_tup_bl, ev_tup_int, ev_tup_str, ev_tup_lst, ev_lst_non, ev_lst_bl, ev_lst_int, ev_lst_str, ev_lst_tup, wipeE_nil, wipeE_cons, cast_0, cast_1, cast_2, cast_3, cast_4, cast_5, cast_6, cast_7, cast_8, cast_9, cast_10, cast_11, cast_12, keysOf_nil, keysOf_cons, mergeS_nil, mergeS_cons, inR_s, sz_lt, sz_le, leq_nn, leq_nc, leq_cn, leq_cc, key_ss, key_ii, key_is, key_si, findK_nil, findK_cons, mapS_nil, mapS_cons, putS_nil, putS_cons, Option.bind_some, Option.map_some, Option.bind_none, Option.map_none, List.set_cons_zero, List.set_cons_succ, List.set_nil, List.getElem?_cons_zero, List.getElem?_cons_succ, List.length_cons, List.length_nil, List.nil_append, List.cons_append, List.map_cons, List.map_nil, if_true, if_false, Bool.false_eq_true, reduceIte, List.all_cons, List.all_nil, Bool.and_true, Bool.true_and, Bool.and_false, Bool.false_and, Bool.not_true, Bool.not_false, Bool.or_false, Bool.or_true, Bool.false_or, Bool.true_or, and_self, and_true, true_and, Int.toNat_natCast, decide_true, decide_false, List.take_zero, List.take_nil, List.take_succ_cons, List.drop_succ_cons, List.drop_zero, List.drop_nil, List.set_nil, List.replicate_succ, List.replicate_zero, List.foldl_cons, List.foldl_nil, Nat.reduceSub, Nat.reduceAdd, Nat.reduceLT, Nat.reduceLeDiff, Nat.reduceEqDiff, Nat.reduceMul, Int.reduceAdd, Int.reduceSub, Int.reduceMul, Int.reduceLT, Int.reduceLE, Int.reduceNeg, Int.reducePow, Int.reduceToNat, or_true, true_or, or_false, false_or, false_and, and_false, Nat.reducePow, not_true_eq_false, not_false_eq_true, Nat.add_zero, Nat.zero_add, Nat.sub_self, Nat.sub_zero, reduceCtorEq, Option.map_map, Int.reduceEq, Int.reduceNe, Int.reduceMod, Int.reduceDiv, List.append_nil]
          exact ⟨_, _, _, rfl, rfl, isI_snoc hI', by simp; omega, okO_d _⟩
        · simp -implicitDefEqProofs only [run_bind, run_some, run_none, run_map, a_var, a_c, a_op, a_un, a_chain, tst_b, a_test, a_and, a_or, a_not, a_andV, a_orV, a_notV, a_if, a_nil, a_cons, a_tup, a_lst, a_new, a_fn, a_isi, a_call, asI_i, a_part, a_noPart, a_cut, a_app, a_ext, a_index, a_sub, a_ps0, a_ps1, a_disp, a_lc, a_tt, a_skip, andThen_nx, andThen_rt, andThen_bk, andThen_ct, a_seq, a_expr, a_ret, a_retN, a_brk, a_cnt, a_ifS, a_set, a_aug, a_asg, two_eq, a_par, a_put, a_daug, a_for, a_scoped, frzO_nx, frzO_bk, frzO_ct, frzO_rt, frzS_d, frzS_r, frzE_nil, frzE_none, frzE_some, a_gN, a_gsNil, a_gsCons, a_gTp, asStr_s, a_strI, asRng_i, a_rng1, asRng2_i, a_rng2, chkOf_d, a_seqI, a_cYes, items_tup, items_lst, litems_lst, ditems_tup, ditems_lst, toD_d, dataAll_nil, dataAll_cons, dataAll_mapd, asD_d, v_ii, v_addI, v_addS, v_addT, v_addL, v_neg, v_ltI, v_ltS, v_eq, v_ne, v_inS, v_notInS, v_ixS, v_ixR, v_ixT, v_ixL, v_cutS, v_cutT, v_cutL, v_lenS, v_lenR, v_lenT, v_lenL, v_abs, v_int1, v_listT, v_listL, v_tupleT, v_tupleL, v_isN, v_notN, isN_non, isN_r, isN_bl, isN_int, isN_str, isN_tup, isN_lst, ty_non, ty_bl, ty_int, ty_str, ty_tup, ty_lst, keyOf_i, keyOf_s, gAddI_i, gSubI_i, index_s, idxKind_s, isDat_d, isDat_r, svB_d, svB_r, moB_lst, moB_dk, natAbs10, asL_l, asK_k, itL_l, liL_l, tdL_l, tdL_k, dsL_k, dsL_l, tyL_l, tyL_k, lstAt_r, dkAt_r, items_r, litems_r, toD_r, dkS_r, dkS_tup, dkS_lst, dkS_dk, dkS_str, tyS_r, v_ixRef, v_lenRef, v_cutRef, ditems_r, v_listRef, v_tupleRef, v_eqRef, v_neRef, v_addRR, v_addRL, v_addLR, finO_nx, finO_rt, finO_bk, finO_ct, isTy_int_NoneType, isTy_int_bool, isTy_int_int, isTy_int_str, isTy_int_tuple, isTy_int_list, isTy_int_dict, isTy_bool_NoneType, isTy_bool_bool, isTy_bool_int, isTy_bool_str, isTy_bool_tuple, isTy_bool_list, isTy_bool_dict, isTy_str_NoneType, isTy_str_bool, isTy_str_int, isTy_str_str, isTy_str_tuple, isTy_str_list, isTy_str_dict, isTy_tuple_NoneType, isTy_tuple_bool, isTy_tuple_int, isTy_tuple_str, isTy_tuple_tuple, isTy_tuple_list, isTy_tuple_dict, isTy_list_NoneType, isTy_list_bool, isTy_list_int, isTy_list_str, isTy_list_tuple, isTy_list_list, isTy_list_dict, isTy_dict_NoneType, isTy_dict_bool, isTy_dict_int, isTy_dict_str, isTy_dict_tuple, isTy_dict_list, isTy_dict_dict, eo_non, eo_bl, eo_int, eo_str, eo_tup, eo_lst, ev_nn, ev_ii, ev_bb, ev_ss, ev_tt, ev_ll, ea_nn, ea_nc, ea_cn, ea_cc, ea_mapd, ev_non_bl, ev_non_int, ev_non_str, ev_non_tup, ev_non_lst, ev_bl_non, ev_bl_str, ev_bl_tup, ev_bl_lst, ev_int_non, ev_int_str, ev_int_tup, ev_int_lst, ev_str_non, ev_str_bl, ev_str_int, ev_str_tup, ev_str_lst, ev_tup_non, ev_tup_bl, ev_tup_int, ev_tup_str, ev_tup_lst, ev_lst_non, ev_lst_bl, ev_lst_int, ev_lst_str, ev_lst_tup, wipeE_nil, wipeE_cons, cast_0, cast_1, cast_2, cast_3, cast_4, cast_5, cast_6, cast_7, cast_8, cast_9, cast_10, cast_11, cast_12, keysOf_nil, keysOf_cons, mergeS_nil, mergeS_cons, inR_s, sz_lt, sz_le, leq_nn, leq_nc, leq_cn, leq_cc, key_ss, key_ii, key_is, key_si, findK_nil, findK_cons, mapS_nil, mapS_cons, putS_nil, putS_cons, Option.bind_some, Option.map_some, Option.bind_none, Option.map_none, List.set_cons_zero, List.set_cons_succ, List.set_nil, List.getElem?_cons_zero, List.getElem?_cons_succ, List.length_cons, List.length_nil, List.nil_append, List.cons_append, List.map_cons, List.map_nil, if_true, if_false, Bool.false_eq_true, reduceIte, List.all_cons, List.all_nil, Bool.and_true, Bool.true_and, Bool.and_false, Bool.false_and, Bool.not_true, Bool.not_false, Bool.or_false, Bool.or_true, Bool.false_or, Bool.true_or, and_self, and_true, true_and, Int.toNat_natCast, decide_true, decide_false, List.take_zero, List.take_nil, List.take_succ_cons, List.drop_succ_cons, List.drop_zero, List.drop_nil, List.set_nil, List.replicate_succ, List.replicate_zero, List.foldl_cons, List.foldl_nil, Nat.reduceSub, Nat.reduceAdd, Nat.reduceLT, Nat.reduceLeDiff, Nat.reduceEqDiff, Nat.reduceMul, Int.reduceAdd, Int.reduceSub, Int.reduceMul, Int.reduceLT, Int.reduceLE, Int.reduceNeg, Int.reducePow, Int.reduceToNat, or_true, true_or, or_false, false_or, false_and, and_false, Nat.reducePow, not_true_eq_false, not_false_eq_true, Nat.add_zero, Nat.zero_add, Nat.sub_self, Nat.sub_zero, reduceCtorEq, Option.map_map, Int.reduceEq, Int.reduceNe, Int.reduceMod, Int.reduceDiv, List.append_nil]
          exact ⟨r, _, ss', rfl, rfl, hI', by omega, okO_d _⟩
      · obtain ⟨r, o7, ss', rfl, rfl, hI', hz', hO'⟩ := h
        rw [rngL_len] at hz'
        refine ⟨rfl, mx', _, _, _, o7, ss', rfl, rfl, hI', by have : (Int.toNat 60) = 60 := rfl; omega, m0', m1', ?_⟩
        intro o ho
        simp at ho
        rcases ho with rfl | rfl | rfl | rfl
        · exact okO_d _
        · exact okO_d _
        · exact okO_d _
        · exact hO'
    refine run_ite (fun hc => ?_) (fun hc => ?_)
    · simp -implicitDefEqProofs only [run_bind, run_some, run_none, run_map, a_var, a_c, a_op, a_un, a_chain, tst_b, a_test, a_and, a_or, a_not, a_andV, a_orV, a_notV, a_if, a_nil, a_cons, a_tup, a_lst, a_new, a_fn, a_isi, a_call, asI_i, a_part, a_noPart, a_cut, a_app, a_ext, a_index, a_sub, a_ps0, a_ps1, a_disp, a_lc, a_tt, a_skip, andThen_nx, andThen_rt, andThen_bk, andThen_ct, a_seq, a_expr, a_ret, a_retN, a_brk, a_cnt, a_ifS, a_set, a_aug, a_asg, two_eq, a_par, a_put, a_daug, a_for, a_scoped, frzO_nx, frzO_bk, frzO_ct, frzO_rt, frzS_d, frzS_r, frzE_nil, frzE_none, frzE_some, a_gN, a_gsNil, a_gsCons, a_gTp, asStr_s, a_strI, asRng_i, a_rng1, asRng2_i, a_rng2, chkOf_d, a_seqI, a_cYes, items_tup, items_lst, litems_lst, ditems_tup, ditems_lst, toD_d, dataAll_nil, dataAll_cons, dataAll_mapd, asD_d, v_ii, v_addI, v_addS, v_addT, v_addL, v_neg, v_ltI, v_ltS, v_eq, v_ne, v_inS, v_notInS, v_ixS, v_ixR, v_ixT, v_ixL, v_cutS, v_cutT, v_cutL, v_lenS, v_lenR, v_lenT, v_lenL, v_abs, v_int1, v_listT, v_listL, v_tupleT, v_tupleL, v_isN, v_notN, isN_non, isN_r, isN_bl, isN_int, isN_str, isN_tup, isN_lst, ty_non, ty_bl, ty_int, ty_str, ty_tup, ty_lst, keyOf_i, keyOf_s, gAddI_i, gSubI_i, index_s, idxKind_s, isDat_d, isDat_r, svB_d, svB_r, moB_lst, moB_dk, natAbs10, asL_l, asK_k, itL_l, liL_l, tdL_l, tdL_k, dsL_k, dsL_l, tyL_l, tyL_k, lstAt_r, dkAt_r, items_r, litems_r, toD_r, dkS_r, dkS_tup, dkS_lst, dkS_dk, dkS_str, tyS_r, v_ixRef, v_lenRef, v_cutRef, ditems_r, v_listRef, v_tupleRef, v_eqRef, v_neRef, v_addRR, v_addRL, v_addLR, finO_nx, finO_rt, finO_bk, finO_ct, isTy_int_NoneType, isTy_int_bool, isTy_int_int, isTy_int_str, isTy_int_tuple, isTy_int_list, isTy_int_dict, isTy_bool_NoneType, isTy_bool_bool, isTy_bool_int, isTy_bool_str, isTy_bool_tuple, isTy_bool_list, isTy_bool_dict, isTy_str_NoneType, isTy_str_bool, isTy_str_int, isTy_str_str, isTy_str_tuple, isTy_str_list, isTy_str_dict, isTy_tuple_NoneType, isTy_tuple_bool, isTy_tuple_int, isTy_tuple_str, isTy_tuple_tuple, isTy_tuple_list, isTy_tuple_dict, isTy_list_NoneType, isTy_list_bool, isTy_list_int, isTy_list_str, isTy_list_tuple, isTy_list_list, isTy_list_dict, isTy_dict_NoneType, isTy_dict_bool, isTy_dict_int, isTy_dict_str, isTy_dict_tuple, isTy_dict_list, isTy_dict_dict, eo_non, eo_bl, eo_int, eo_str, eo_tup, eo_lst, ev_nn, ev_ii, ev_bb, ev_ss, ev_tt, ev_ll, ea_nn, ea_nc, ea_cn, ea_cc, ea_mapd, ev_non_bl, ev_non_int, ev_non_str, ev_non_tup, ev_non_lst, ev_bl_non, ev_bl_str, ev_bl_tup, ev_bl_lst, ev_int_non, ev_int_str, ev_int_tup, ev_int_lst, ev_str_non, ev_str_bl, ev_str_int, ev_str_tup, ev_str_lst, ev_tup_non, ev_tup_bl, ev_tup_int, ev_tup_str, ev_tup_lst, ev_lst_non, ev_lst_bl, ev_lst_int, ev_lst_str, ev_lst_tup, wipeE_nil, wipeE_cons, cast_0, cast_1, cast_2, cast_3, cast_4, cast_5, cast_6, cast_7, cast_8, cast_9, cast_10, cast_11, cast_12, keysOf_nil, keysOf_cons, mergeS_nil, mergeS_cons, inR_s, sz_lt, sz_le, leq_nn, leq_nc, leq_cn, leq_cc, key_ss, key_ii, key_is, key_si, findK_nil, findK_cons, mapS_nil, mapS_cons, putS_nil, putS_cons, Option.bind_some, Option.map_some, Option.bind_none, Option.map_none, List.set_cons_zero, List.set_cons_succ, List.set_nil, List.getElem?_cons_zero, List.getElem?_cons_succ, List.length_cons, List.length_nil, List.nil_append, List.cons_append, List.map_cons, List.map_nil, if_true, if_false, Bool.false_eq_true, reduceIte, List.all_cons, List.all_nil, Bool.and_true, Bool.true_and, Bool.and_false, Bool.false_and, Bool.not_true, Bool.not_false, Bool.or_false, Bool.or_true, Bool.false_or, Bool.true_or, and_self, and_true, true_and, Int.toNat_natCast, decide_true, decide_false, List.take_zero, List.take_nil, List.take_succ_cons, List.drop_succ_cons, List.drop_zero, List.drop_nil, List.set_nil, List.replicate_succ, List.replicate_zero, List.foldl_cons, List.foldl_nil, Nat.reduceSub, Nat.reduceAdd, Nat.reduceLT, Nat.reduceLeDiff, Nat.reduceEqDiff, Nat.reduceMul, Int.reduceAdd, Int.reduceSub, Int.reduceMul, Int.reduceLT, Int.reduceLE, Int.reduceNeg, Int.reducePow, Int.reduceToNat, or_true, true_or, or_false, false_or, false_and, and_false, Nat.reducePow, not_true_eq_false, not_false_eq_true, Nat.add_zero, Nat.zero_add, Nat.sub_self, Nat.sub_zero, reduceCtorEq, Option.map_map, Int.reduceEq, Int.reduceNe, Int.reduceMod, Int.reduceDiv, List.append_nil, h60]
      refine (fin _ _ hI (by omega)).mono ?_
      rintro ⟨o, δ, st⟩ ⟨h1, h2⟩
      dsimp only at h1
      subst h1
      exact h2
    · simp -implicitDefEqProofs only [run_bind, run_some, run_none, run_map, a_var, a_c, a_op, a_un, a_chain, tst_b, a_test, a_and, a_or, a_not, a_andV, a_orV, a_notV, a_if, a_nil, a_cons, a_tup, a_lst, a_new, a_fn, a_isi, a_call, asI_i, a_part, a_noPart, a_cut, a_app, a_ext, a_index, a_sub, a_ps0, a_ps1, a_disp, a_lc, a_tt, a_skip, andThen_nx, andThen_rt, andThen_bk, andThen_ct, a_seq, a_expr, a_ret, a_retN, a_brk, a_cnt, a_ifS, a_set, a_aug, a_asg, two_eq, a_par, a_put, a_daug, a_for, a_scoped, frzO_nx, frzO_bk, frzO_ct, frzO_rt, frzS_d, frzS_r, frzE_nil, frzE_none, frzE_some, a_gN, a_gsNil, a_gsCons, a_gTp, asStr_s, a_strI, asRng_i, a_rng1, asRng2_i, a_rng2, chkOf_d, a_seqI, a_cYes, items_tup, items_lst, litems_lst, ditems_tup, ditems_lst, toD_d, dataAll_nil, dataAll_cons, dataAll_mapd, asD_d, v_ii, v_addI, v_addS, v_addT, v_addL, v_neg, v_ltI, v_ltS, v_eq, v_ne, v_inS, v_notInS, v_ixS, v_ixR, v_ixT, v_ixL, v_cutS, v_cutT, v_cutL, v_lenS, v_lenR, v_lenT, v_lenL, v_abs, v_int1, v_listT, v_listL, v_tupleT, v_tupleL, v_isN, v_notN, isN_non, isN_r, isN_bl, isN_int, isN_str, isN_tup, isN_lst, ty_non, ty_bl, ty_int, ty_str, ty_tup, ty_lst, keyOf_i, keyOf_s, gAddI_i, gSubI_i, index_s, idxKind_s, isDat_d, isDat_r, svB_d, svB_r, moB_lst, moB_dk, natAbs10, asL_l, asK_k, itL_l, liL_l, tdL_l, tdL_k, dsL_k, dsL_l, tyL_l, tyL_k, lstAt_r, dkAt_r, items_r, litems_r, toD_r, dkS_r, dkS_tup, dkS_lst, dkS_dk, dkS_str, tyS_r, v_ixRef, v_lenRef, v_cutRef, ditems_r, v_listRef, v_tupleRef, v_eqRef, v_neRef, v_addRR, v_addRL, v_addLR, finO_nx, finO_rt, finO_bk, finO_ct, isTy_int_NoneType, isTy_int_bool, isTy_int_int, isTy_int_str, isTy_int_tuple, isTy_int_list, isTy_int_dict, isTy_bool_NoneType, isTy_bool_bool, isTy_bool_int, isTy_bool_str, isTy_bool_tuple, isTy_bool_list, isTy_bool_dict, isTy_str_NoneType, isTy_str_bool, isTy_str_int, isTy_str_str, isTy_str_tuple, isTy_str_list, isTy_str_dict, isTy_tuple_NoneType, isTy_tuple_bool, isTy_tuple_int, isTy_tuple_str, isTy_tuple_tuple, isTy_tuple_list, isTy_tuple_dict, isTy_list_NoneType, isTy_list_bool, isTy_list_int, isTy_list_str, isTy_list_tuple, isTy_list_list, isTy_list_dict, isTy_dict_NoneType, isTy_dict_bool, isTy_dict_int, isTy_dict_str, isTy_dict_tuple, isTy_dict_list, isTy_dict_dict, eo_non, eo_bl, eo_int, eo_str, eo_tup, eo_lst, ev_nn, ev_ii, ev_bb, ev_ss, ev_tt, ev_ll, ea_nn, ea_nc, ea_cn, ea_cc, ea_mapd, ev_non_bl, ev_non_int, ev_non_str, ev_non_tup, ev_non_lst, ev_bl_non, ev_bl_str, ev_bl_tup, ev_bl_lst, ev_int_non, ev_int_str, ev_int_tup, ev_int_lst, ev_str_non, ev_str_bl, ev_str_int, ev_str_tup, ev_str_lst, ev_tup_non, ev_tup_bl, ev_tup_int, ev_tup_str, ev_tup_lst, ev_lst_non, ev_lst_bl, ev_lst_int, ev_lst_str, ev_lst_tup, wipeE_nil, wipeE_cons, cast_0, cast_1, cast_2, cast_3, cast_4, cast_5, cast_6, cast_7, cast_8, cast_9, cast_10, cast_11, cast_12, keysOf_nil, keysOf_cons, mergeS_nil, mergeS_cons, inR_s, sz_lt, sz_le, leq_nn, leq_nc, leq_cn, leq_cc, key_ss, key_ii, key_is, key_si, findK_nil, findK_cons, mapS_nil, mapS_cons, putS_nil, putS_cons, Option.bind_some, Option.map_some, Option.bind_none, Option.map_none, List.set_cons_zero, List.set_cons_succ, List.set_nil, List.getElem?_cons_zero, List.getElem?_cons_succ, List.length_cons, List.length_nil, List.nil_append, List.cons_append, List.map_cons, List.map_nil, if_true, if_false, Bool.false_eq_true, reduceIte, List.all_cons, List.all_nil, Bool.and_true, Bool.true_and, Bool.and_false, Bool.false_and, Bool.not_true, Bool.not_false, Bool.or_false, Bool.or_true, Bool.false_or, Bool.true_or, and_self, and_true, true_and, Int.toNat_natCast, decide_true, decide_false, List.take_zero, List.take_nil, List.take_succ_cons, List.drop_succ_cons, List.drop_zero, List.drop_nil, List.set_nil, List.replicate_succ, List.replicate_zero, List.foldl_cons, List.foldl_nil, Nat.reduceSub, Nat.reduceAdd, Nat.reduceLT, Nat.reduceLeDiff, Nat.reduceEqDiff, Nat.reduceMul, Int.reduceAdd, Int.reduceSub, Int.reduceMul, Int.reduceLT, Int.reduceLE, Int.reduceNeg, Int.reducePow, Int.reduceToNat, or_true, true_or, or_false, false_or, false_and, and_false, Nat.reducePow, not_true_eq_false, not_false_eq_true, Nat.add_zero, Nat.zero_add, Nat.sub_self, Nat.sub_zero, reduceCtorEq, Option.map_map, Int.reduceEq, Int.reduceNe, Int.reduceMod, Int.reduceDiv, List.append_nil]
      rw [if_pos (by omega)]
      simp -implicitDefEqProofs only [run_bind, run_some, run_none, run_map, a_var, a_c, a_op, a_un, a_chain, tst_b, a_test, a_and, a_or, a_not, a_andV, a_orV, a_notV, a_if, a_nil, a_cons, a_tup, a_lst, a_new, a_fn, a_isi, a_call, asI_i, a_part, a_noPart, a_cut, a_app, a_ext, a_index, a_sub, a_ps0, a_ps1, a_disp, a_lc, a_tt, a_skip, andThen_nx, andThen_rt, andThen_bk, andThen_ct, a_seq, a_expr, a_ret, a_retN, a_brk, a_cnt, a_ifS, a_set, a_aug, a_asg, two_eq, a_par, a_put, a_daug, a_for, a_scoped, frzO_nx, frzO_bk, frzO_ct, frzO_rt, frzS_d, frzS_r, frzE_nil, frzE_none, frzE_some, a_gN, a_gsNil, a_gsCons, a_gTp, asStr_s, a_strI, asRng_i, a_rng1, asRng2_i, a_rng2, chkOf_d, a_seqI, a_cYes, items_tup, items_lst, litems_lst, ditems_tup, ditems_lst, toD_d, dataAll_nil, dataAll_cons, dataAll_mapd, asD_d, v_ii, v_addI, v_addS, v_addT, v_addL, v_neg, v_ltI, v_ltS, v_eq, v_ne, v_inS, v_notInS, v_ixS, v_ixR, v_ixT, v_ixL, v_cutS, v_cutT, v_cutL, v_lenS, v_lenR, v_lenT, v_lenL, v_abs, v_int1, v_listT, v_listL, v_tupleT, v_tupleL, v_isN, v_notN, isN_non, isN_r, isN_bl, isN_int, isN_str, isN_tup, isN_lst, ty_non, ty_bl, ty_int, ty_str, ty_tup, ty_lst, keyOf_i, keyOf_s, gAddI_i, gSubI_i, index_s, idxKind_s, isDat_d, isDat_r, svB_d, svB_r, moB_lst, moB_dk, natAbs10, asL_l, asK_k, itL_l, liL_l, tdL_l, tdL_k, dsL_k, dsL_l, tyL_l, tyL_k, lstAt_r, dkAt_r, items_r, litems_r, toD_r, dkS_r, dkS_tup, dkS_lst, dkS_dk, dkS_str, tyS_r, v_ixRef, v_lenRef, v_cutRef, ditems_r, v_listRef, v_tupleRef, v_eqRef, v_neRef, v_addRR, v_addRL, v_addLR, finO_nx, finO_rt, finO_bk, finO_ct, isTy_int_NoneType, isTy_int_bool, isTy_int_int, isTy_int_str, isTy_int_tuple, isTy_int_list, isTy_int_dict, isTy_bool_NoneType, isTy_bool_bool, isTy_bool_int, isTy_bool_str, isTy_bool_tuple, isTy_bool_list, isTy_bool_dict, isTy_str_NoneType, isTy_str_bool, isTy_str_int, isTy_str_str, isTy_str_tuple, isTy_str_list, isTy_str_dict, isTy_tuple_NoneType, isTy_tuple_bool, isTy_tuple_int, isTy_tuple_str, isTy_tuple_tuple, isTy_tuple_list, isTy_tuple_dict, isTy_list_NoneType, isTy_list_bool, isTy_list_int, isTy_list_str, isTy_list_tuple, isTy_list_list, isTy_list_dict, isTy_dict_NoneType, isTy_dict_bool, isTy_dict_int, isTy_dict_str, isTy_dict_tuple, isTy_dict_list, isTy_dict_dict, eo_non, eo_bl, eo_int, eo_str, eo_tup, eo_lst, ev_nn, ev_ii, ev_bb, ev_ss, ev_tt, ev_ll, ea_nn, ea_nc, ea_cn, ea_cc, ea_mapd, ev_non_bl, ev_non_int, ev_non_str, ev_non_tup, ev_non_lst, ev_bl_non, ev_bl_str, ev_bl_tup, ev_bl_lst, ev_int_non, ev_int_str, ev_int_tup, ev_int_lst, ev_str_non, ev_str_bl, ev_str_int, ev_str_tup, ev_str_lst, ev_tup_non, ev_tup_bl, ev_tup_int, ev_tup_str, ev_tup_lst, ev_lst_non, ev_lst_bl, ev_lst_int, ev_lst_str, ev_lst_tup, wipeE_nil, wipeE_cons, cast_0, cast_1, cast_2, cast_3, cast_4, cast_5, cast_6, cast_7, cast_8, cast_9, cast_10, cast_11, cast_12, keysOf_nil, keysOf_cons, mergeS_nil, mergeS_cons, inR_s, sz_lt, sz_le, leq_nn, leq_nc, leq_cn, leq_cc, key_ss, key_ii, key_is, key_si, findK_nil, findK_cons, mapS_nil, mapS_cons, putS_nil, putS_cons, Option.bind_some, Option.map_some, Option.bind_none, Option.map_none, List.set_cons_zero, List.set_cons_succ, List.set_nil, List.getElem?_cons_zero, List.getElem?_cons_succ, List.length_cons, List.length_nil, List.nil_append, List.cons_append, List.map_cons, List.map_nil, if_true, if_false, Bool.false_eq_true, reduceIte, List.all_cons, List.all_nil, Bool.and_true, Bool.true_and, Bool.and_false, Bool.false_and, Bool.not_true, Bool.not_false, Bool.or_false, Bool.or_true, Bool.false_or, Bool.true_or, and_self, and_true, true_and, Int.toNat_natCast, decide_true, decide_false, List.take_zero, List.take_nil, List.take_succ_cons, List.drop_succ_cons, List.drop_zero, List.drop_nil, List.set_nil, List.replicate_succ, List.replicate_zero, List.foldl_cons, List.foldl_nil, Nat.reduceSub, Nat.reduceAdd, Nat.reduceLT, Nat.reduceLeDiff, Nat.reduceEqDiff, Nat.reduceMul, Int.reduceAdd, Int.reduceSub, Int.reduceMul, Int.reduceLT, Int.reduceLE, Int.reduceNeg, Int.reducePow, Int.reduceToNat, or_true, true_or, or_false, false_or, false_and, and_false, Nat.reducePow, not_true_eq_false, not_false_eq_true, Nat.add_zero, Nat.zero_add, Nat.sub_self, Nat.sub_zero, reduceCtorEq, Option.map_map, Int.reduceEq, Int.reduceNe, Int.reduceMod, Int.reduceDiv, List.append_nil]
      rw [if_pos (by simp; omega)]
      simp -implicitDefEqProofs only [run_bind, run_some, run_none, run_map, a_var, a_c, a_op, a_un, a_chain, tst_b, a_test, a_and, a_or, a_not, a_andV, a_orV, a_notV, a_if, a_nil, a_cons, a_tup, a_lst, a_new, a_fn, a_isi, a_call, asI_i, a_part, a_noPart, a_cut, a_app, a_ext, a_index, a_sub, a_ps0, a_ps1, a_disp, a_lc, a_tt, a_skip, andThen_nx, andThen_rt, andThen_bk, andThen_ct, a_seq, a_expr, a_ret, a_retN, a_brk, a_cnt, a_ifS, a_set, a_aug, a_asg, two_eq, a_par, a_put, a_daug, a_for, a_scoped, frzO_nx, frzO_bk, frzO_ct, frzO_rt, frzS_d, frzS_r, frzE_nil, frzE_none, frzE_some, a_gN, a_gsNil, a_gsCons, a_gTp, asStr_s, a_strI, asRng_i, a_rng1, asRng2_i, a_rng2, chkOf_d, a_seqI, a_cYes, items_tup, items_lst, litems_lst, ditems_tup, ditems_lst, toD_d, dataAll_nil, dataAll_cons, dataAll_mapd, asD_d, v_ii, v_addI, v_addS, v_addT, v_addL, v_neg, v_ltI, v_ltS, v_eq, v_ne, v_inS, v_notInS, v_ixS, v_ixR, v_ixT, v_ixL, v_cutS, v_cutT, v_cutL, v_lenS, v_lenR, v_lenT, v_lenL, v_abs, v_int1, v_listT, v_listL, v_tupleT, v_tupleL, v_isN, v_notN, isN_non, isN_r, isN_bl, isN_int, isN_str, isN_tup, isN_lst, ty_non, ty_bl, ty_int, ty_str, ty_tup, ty_lst, keyOf_i, keyOf_s, gAddI_i, gSubI_i, index_s, idxKind_s, isDat_d, isDat_r, svB_d, svB_r, moB_lst, moB_dk, natAbs10, asL_l, asK_k, itL_l, liL_l, tdL_l, tdL_k, dsL_k, dsL_l, tyL_l, tyL_k, lstAt_r, dkAt_r, items_r, litems_r, toD_r, dkS_r, dkS_tup, dkS_lst, dkS_dk, dkS_str, tyS_r, v_ixRef, v_lenRef, v_cutRef, ditems_r, v_listRef, v_tupleRef, v_eqRef, v_neRef, v_addRR, v_addRL, v_addLR, finO_nx, finO_rt, finO_bk, finO_ct, isTy_int_NoneType, isTy_int_bool, isTy_int_int, isTy_int_str, isTy_int_tuple, isTy_int_list, isTy_int_dict, isTy_bool_NoneType, isTy_bool_bool, isTy_bool_int, isTy_bool_str, isTy_bool_tuple, isTy_bool_list, isTy_bool_dict, isTy_str_NoneType, isTy_str_bool, isTy_str_int, isTy_str_str, isTy_str_tuple, isTy_str_list, isTy_str_dict, isTy_tuple_NoneType, isTy_tuple_bool, isTy_tuple_int, isTy_tuple_str, isTy_tuple_tuple, isTy_tuple_list, isTy_tuple_dict, isTy_list_NoneType, isTy_list_bool, isTy_list_int, isTy_list_str, isTy_list_tuple, isTy_list_list, isTy_list_dict, isTy_dict_NoneType, isTy_dict_bool, isTy_dict_int, isTy_dict_str, isTy_dict_tuple, isTy_dict_list, isTy_dict_dict, eo_non, eo_bl, eo_int, eo_str, eo_tup, eo_lst, ev_nn, ev_ii, ev_bb, ev_ss, ev_tt, ev_ll, ea_nn, ea_nc, ea_cn, ea_cc, ea_mapd, ev_non_bl, ev_non_int, ev_non_str, ev_non_tup, ev_non_lst, ev_bl_non, ev_bl_str, ev_bl_tup, ev_bl_lst, ev_int_non, ev_int_str, ev_int_tup, ev_int_lst, ev_str_non, ev_str_bl, ev_str_int, ev_str_tup, ev_str_lst, ev_tup_non, ev_tup_bl, ev_tup_int, ev_tup_str, ev_tup_lst, ev_lst_non, ev_lst_bl, ev_lst_int, ev_lst_str, ev_lst_tup, wipeE_nil, wipeE_cons, cast_0, cast_1, cast_2, cast_3, cast_4, cast_5, cast_6, cast_7, cast_8, cast_9, cast_10, cast_11, cast_12, keysOf_nil, keysOf_cons, mergeS_nil, mergeS_cons, inR_s, sz_lt, sz_le, leq_nn, leq_nc, leq_cn, leq_cc, key_ss, key_ii, key_is, key_si, findK_nil, findK_cons, mapS_nil, mapS_cons, putS_nil, putS_cons, Option.bind_some, Option.map_some, Option.bind_none, Option.map_none, List.set_cons_zero, List.set_cons_succ, List.set_nil, List.getElem?_cons_zero, List.getElem?_cons_succ, List.length_cons, List.length_nil, List.nil_append, List.cons_append, List.map_cons, List.map_nil, if_true, if_false, Bool.false_eq_true, reduceIte, List.all_cons, List.all_nil, Bool.and_true, Bool.true_and, Bool.and_false, Bool.false_and, Bool.not_true, Bool.not_false, Bool.or_false, Bool.or_true, Bool.false_or, Bool.true_or, and_self, and_true, true_and, Int.toNat_natCast, decide_true, decide_false, List.take_zero, List.take_nil, List.take_succ_cons, List.drop_succ_cons, List.drop_zero, List.drop_nil, List.set_nil, List.replicate_succ, List.replicate_zero, List.foldl_cons, List.foldl_nil, Nat.reduceSub, Nat.reduceAdd, Nat.reduceLT, Nat.reduceLeDiff, Nat.reduceEqDiff, Nat.reduceMul, Int.reduceAdd, Int.reduceSub, Int.reduceMul, Int.reduceLT, Int.reduceLE, Int.reduceNeg, Int.reducePow, Int.reduceToNat, or_true, true_or, or_false, false_or, false_and, and_false, Nat.reducePow, not_true_eq_false, not_false_eq_true, Nat.add_zero, Nat.zero_add, Nat.sub_self, Nat.sub_zero, reduceCtorEq, Option.map_map, Int.reduceEq, Int.reduceNe, Int.reduceMod, Int.reduceDiv, List.append_nil, h60]
      refine (fin _ _ (isI_snoc (isI_snoc hI)) (by simp; omega)).mono ?_
      rintro ⟨o, δ, st⟩ ⟨h1, h2⟩
      dsimp only at h1
      subst h1
      exact h2
  · rintro ⟨o, δ, st⟩ ⟨h1, mx, o4, o5, o6, o7, ss, h2, h3, hI, hz, m0, m1, hO⟩
    dsimp only at h1 h2 h3
    subst h1 h2 h3
    have hr2 : inR m = true := by
      unfold inR
      exact decide_eq_true (by omega)
    simp -implicitDefEqProofs only [run_bind, run_some, run_none, run_map, a_var, a_c, a_op, a_un, a_chain, tst_b, a_test, a_and, a_or, a_not, a_andV, a_orV, a_notV, a_if, a_nil, a_cons, a_tup, a_lst, a_new, a_fn, a_isi, a_call, asI_i, a_part, a_noPart, a_cut, a_app, a_ext, a_index, a_sub, a_ps0, a_ps1, a_disp, a_lc, a_tt, a_skip, andThen_nx, andThen_rt, andThen_bk, andThen_ct, a_seq, a_expr, a_ret, a_retN, a_brk, a_cnt, a_ifS, a_set, a_aug, a_asg, two_eq, a_par, a_put, a_daug, a_for, a_scoped, frzO_nx, frzO_bk, frzO_ct, frzO_rt, frzS_d, frzS_r, frzE_nil, frzE_none, frzE_some, a_gN, a_gsNil, a_gsCons, a_gTp, asStr_s, a_strI, asRng_i, a_rng1, asRng2_i, a_rng2, chkOf_d, a_seqI, a_cYes, items_tup, items_lst, litems_lst, ditems_tup, ditems_lst, toD_d, dataAll_nil, dataAll_cons, dataAll_mapd, asD_d, v_ii, v_addI, v_addS, v_addT, v_addL, v_neg, v_ltI, v_ltS, v_eq, v_ne, v_inS, v_notInS, v_ixS, v_ixR, v_ixT, v_ixL, v_cutS, v_cutT, v_cutL, v_lenS, v_lenR, v_lenT, v_lenL, v_abs, v_int1, v_listT, v_listL, v_tupleT, v_tupleL, v_isN, v_notN, isN_non, isN_r, isN_bl, isN_int, isN_str, isN_tup, isN_lst, ty_non, ty_bl, ty_int, ty_str, ty_tup, ty_lst, keyOf_i, keyOf_s, gAddI_i, gSubI_i, index_s, idxKind_s, isDat_d, isDat_r, svB_d, svB_r, moB_lst, moB_dk, natAbs10, asL_l, asK_k, itL_l, liL_l, tdL_l, tdL_k, dsL_k, dsL_l, tyL_l, tyL_k, lstAt_r, dkAt_r, items_r, litems_r, toD_r, dkS_r, dkS_tup, dkS_lst, dkS_dk, dkS_str, tyS_r, v_ixRef, v_lenRef, v_cutRef, ditems_r, v_listRef, v_tupleRef, v_eqRef, v_neRef, v_addRR, v_addRL, v_addLR, finO_nx, finO_rt, finO_bk, finO_ct, isTy_int_NoneType, isTy_int_bool, isTy_int_int, isTy_int_str, isTy_int_tuple, isTy_int_list, isTy_int_dict, isTy_bool_NoneType, isTy_bool_bool, isTy_bool_int, isTy_bool_str, isTy_bool_tuple, isTy_bool_list, isTy_bool_dict, isTy_str_NoneType, isTy_str_bool, isTy_str_int, isTy_str_str, isTy_str_tuple, isTy_str_list, isTy_str_dict, isTy_tuple_NoneType, isTy_tuple_bool, isTy_tuple_int, isTy_tuple_str, isTy_tuple_tuple, isTy_tuple_list, isTy_tuple_dict, isTy_list_NoneType, isTy_list_bool, isTy_list_int, isTy_list_str, isTy_list_tuple, isTy_list_list, isTy_list_dict, isTy_dict_NoneType, isTy_dict_bool, isTy_dict_int, isTy_dict_str, isTy_dict_tuple, isTy_dict_list, isTy_dict_dict, eo_non, eo_bl, eo_int, eo_str, eo_tup, eo_lst, ev_nn, ev_ii, ev_bb, ev_ss, ev_tt, ev_ll, ea_nn, ea_nc, ea_cn, ea_cc, ea_mapd, ev_non_bl, ev_non_int, ev_non_str, ev_non_tup, ev_non_lst, ev_bl_non, ev_bl_str, ev_bl_tup, ev_bl_lst, ev_int_non, ev_int_str, ev_int_tup, ev_int_lst, ev_str_non, ev_str_bl, ev_str_int, ev_str_tup, ev_str_lst, ev_tup_non, ev_tup_bl, ev_tup_int, ev_tup_str, ev_tup_lst, ev_lst_non, ev_lst_bl, ev_lst_int, ev_lst_str, ev_lst_tup, wipeE_nil, wipeE_cons, cast_0, cast_1, cast_2, cast_3, cast_4, cast_5, cast_6, cast_7, cast_8, cast_9, cast_10, cast_11, cast_12, keysOf_nil, keysOf_cons, mergeS_nil, mergeS_cons, inR_s, sz_lt, sz_le, leq_nn, leq_nc, leq_cn, leq_cc, key_ss, key_ii, key_is, key_si, findK_nil, findK_cons, mapS_nil, mapS_cons, putS_nil, putS_cons, Option.bind_some, Option.map_some, Option.bind_none, Option.map_none, List.set_cons_zero, List.set_cons_succ, List.set_nil, List.getElem?_cons_zero, List.getElem?_cons_succ, List.length_cons, List.length_nil, List.nil_append, List.cons_append, List.map_cons, List.map_nil, if_true, if_false, Bool.false_eq_true, reduceIte, List.all_cons, List.all_nil, Bool.and_true, Bool.true_and, Bool.and_false, Bool.false_and, Bool.not_true, Bool.not_false, Bool.or_false, Bool.or_true, Bool.false_or, Bool.true_or, and_self, and_true, true_and, Int.toNat_natCast, decide_true, decide_false, List.take_zero, List.take_nil, List.take_succ_cons, List.drop_succ_cons, List.drop_zero, List.drop_nil, List.set_nil, List.replicate_succ, List.replicate_zero, List.foldl_cons, List.foldl_nil, Nat.reduceSub, Nat.reduceAdd, Nat.reduceLT, Nat.reduceLeDiff, Nat.reduceEqDiff, Nat.reduceMul, Int.reduceAdd, Int.reduceSub, Int.reduceMul, Int.reduceLT, Int.reduceLE, Int.reduceNeg, Int.reducePow, Int.reduceToNat, or_true, true_or, or_false, false_or, false_and, and_false, Nat.reducePow, not_true_eq_false, not_false_eq_true, Nat.add_zero, Nat.zero_add, Nat.sub_self, Nat.sub_zero, reduceCtorEq, Option.map_map, Int.reduceEq, Int.reduceNe, Int.reduceMod, Int.reduceDiv, List.append_nil, hr2]
    refine (forL_wp _ (fun i δ st => i ≤ m.toNat ∧ DrI ns m (62 * ns.length + i) δ st) (R := fun p => p.1 = .nx ∧ DrI ns m 6000 p.2.1 p.2.2) ⟨by omega, mx, o4, o5, o6, o7, ss, rfl, rfl, hI, by omega, m0, m1, hO⟩ ?_ (fun δ st h => ?_)).mono ?_
    · rintro i s δ st hs ⟨hi0, mx, o4, o5, o6, o7, ss, rfl, rfl, hI, hz, m0, m1, hO⟩
      obtain ⟨hi, rfl⟩ := rngL_get hs
      simp -implicitDefEqProofs only [run_bind, run_some, run_none, run_map, a_var, a_c, a_op, a_un, a_chain, tst_b, a_test, a_and, a_or, a_not, a_andV, a_orV, a_notV, a_if, a_nil, a_cons, a_tup, a_lst, a_new, a_fn, a_isi, a_call, asI_i, a_part, a_noPart, a_cut, a_app, a_ext, a_index, a_sub, a_ps0, a_ps1, a_disp, a_lc, a_tt, a_skip, andThen_nx, andThen_rt, andThen_bk, andThen_ct, a_seq, a_expr, a_ret, a_retN, a_brk, a_cnt, a_ifS, a_set, a_aug, a_asg, two_eq, a_par, a_put, a_daug, a_for, a_scoped, frzO_nx, frzO_bk, frzO_ct, frzO_rt, frzS_d, frzS_r, frzE_nil, frzE_none, frzE_some, a_gN, a_gsNil, a_gsCons, a_gTp, asStr_s, a_strI, asRng_i, a_rng1, asRng2_i, a_rng2, chkOf_d, a_seqI, a_cYes, items_tup, items_lst, litems_lst, ditems_tup, ditems_lst, toD_d, dataAll_nil, dataAll_cons, dataAll_mapd, asD_d, v_ii, v_addI, v_addS, v_addT, v_addL, v_neg, v_ltI, v_ltS, v_eq, v_ne, v_inS, v_notInS, v_ixS, v_ixR, v_ixT, v_ixL, v_cutS, v_cutT, v_cutL, v_lenS, v_lenR, v_lenT, v_lenL, v_abs, v_int1, v_listT, v_listL, v_tupleT, v_tupleL, v_isN, v_notN, isN_non, isN_r, isN_bl, isN_int, isN_str, isN_tup, isN_lst, ty_non, ty_bl, ty_int, ty_str, ty_tup, ty_lst, keyOf_i, keyOf_s, gAddI_i, gSubI_i, index_s, idxKind_s, isDat_d, isDat_r, svB_d, svB_r, moB_lst, moB_dk, natAbs10, asL_l, asK_k, itL_l, liL_l, tdL_l, tdL_k, dsL_k, dsL_l, tyL_l, tyL_k, lstAt_r, dkAt_r, items_r, litems_r, toD_r, dkS_r, dkS_tup, dkS_lst, dkS_dk, dkS_str, tyS_r, v_ixRef, v_lenRef, v_cutRef, ditems_r, v_listRef, v_tupleRef, v_eqRef, v_neRef, v_addRR, v_addRL, v_addLR, finO_nx, finO_rt, finO_bk, finO_ct, isTy_int_NoneType, isTy_int_bool, isTy_int_int, isTy_int_str, isTy_int_tuple, isTy_int_list, isTy_int_dict, isTy_bool_NoneType, isTy_bool_bool, isTy_bool_int, isTy_bool_str, isTy_bool_tuple, isTy_bool_list, isTy_bool_dict, isTy_str_NoneType, isTy_str_bool, isTy_str_int, isTy_str_str, isTy_str_tuple, isTy_str_list, isTy_str_dict, isTy_tuple_NoneType, isTy_tuple_bool, isTy_tuple_int, isTy_tuple_str, isTy_tuple_tuple, isTy_tuple_list, isTy_tuple_dict, isTy_list_NoneType, isTy_list_bool, isTy_list_int, isTy_list_str, isTy_list_tuple, isTy_list_list, isTy_list_dict, isTy_dict_NoneType, isTy_dict_bool, isTy_dict_int, isTy_dict_str, isTy_dict_tuple, isTy_dict_list, isTy_dict_dict, eo_non, eo_bl, eo_int, eo_str, eo_tup, eo_lst, ev_nn, ev_ii, ev_bb, ev_ss, ev_tt, ev_ll, ea_nn, ea_nc, ea_cn, ea_cc, ea_mapd, ev_non_bl, ev_non_int, ev_non_str, ev_non_tup, ev_non_lst, ev_bl_non, ev_bl_str, ev_bl_tup, ev_bl_lst, ev_int_non, ev_int_str, ev_int_tup, ev_int_lst, ev_str_non, ev_str_bl, ev_str_int, ev_str_tup, ev_str_lst, ev_tup_non, ev_tup_bl, ev_tup_int, ev_tup_str, ev_tup_lst, ev_lst_non, ev_lst_bl, ev_lst_int, ev_lst_str, ev_lst_tup, wipeE_nil, wipeE_cons, cast_0, cast_1, cast_2, cast_3, cast_4, cast_5, cast_6, cast_7, cast_8, cast_9, cast_10, cast_11, cast_12, keysOf_nil, keysOf_cons, mergeS_nil, mergeS_cons, inR_s, sz_lt, sz_le, leq_nn, leq_nc, leq_cn, leq_cc, key_ss, key_ii, key_is, key_si, findK_nil, findK_cons, mapS_nil, mapS_cons, putS_nil, putS_cons, Option.bind_some, Option.map_some, Option.bind_none, Option.map_none, List.set_cons_zero, List.set_cons_succ, List.set_nil, List.getElem?_cons_zero, List.getElem?_cons_succ, List.length_cons, List.length_nil, List.nil_append, List.cons_append, List.map_cons, List.map_nil, if_true, if_false, Bool.false_eq_true, reduceIte, List.all_cons, List.all_nil, Bool.and_true, Bool.true_and, Bool.and_false, Bool.false_and, Bool.not_true, Bool.not_false, Bool.or_false, Bool.or_true, Bool.false_or, Bool.true_or, and_self, and_true, true_and, Int.toNat_natCast, decide_true, decide_false, List.take_zero, List.take_nil, List.take_succ_cons, List.drop_succ_cons, List.drop_zero, List.drop_nil, List.set_nil, List.replicate_succ, List.replicate_zero, List.foldl_cons, List.foldl_nil, Nat.reduceSub, Nat.reduceAdd, Nat.reduceLT, Nat.reduceLeDiff, Nat.reduceEqDiff, Nat.reduceMul, Int.reduceAdd, Int.reduceSub, Int.reduceMul, Int.reduceLT, Int.reduceLE, Int.reduceNeg, Int.reducePow, Int.reduceToNat, or_true, true_or, or_false, false_or, false_and, and_false, Nat.reducePow, not_true_eq_false, not_false_eq_true, Nat.add_zero, Nat.zero_add, Nat.sub_self, Nat.sub_zero, reduceCtorEq, Option.map_map, Int.reduceEq, Int.reduceNe, Int.reduceMod, Int.reduceDiv, List.append_nil]
      rw [if_pos (by omega)]
      simp -implicitDefEqProofs only [run_bind, run_some, run_none, run_map, a_var, a_c, a_op, a_un, a_chain, tst_b, a_test, a_and, a_or, a_not, a_andV, a_orV, a_notV, a_if, a_nil, a_cons, a_tup, a_lst, a_new, a_fn, a_isi, a_call, asI_i, a_part, a_noPart, a_cut, a_app, a_ext, a_index, a_sub, a_ps0, a_ps1, a_disp, a_lc, a_tt, a_skip, andThen_nx, andThen_rt, andThen_bk, andThen_ct, a_seq, a_expr, a_ret, a_retN, a_brk, a_cnt, a_ifS, a_set, a_aug, a_asg, two_eq, a_par, a_put, a_daug, a_for, a_scoped, frzO_nx, frzO_bk, frzO_ct, frzO_rt, frzS_d, frzS_r, frzE_nil, frzE_none, frzE_some, a_gN, a_gsNil, a_gsCons, a_gTp, asStr_s, a_strI, asRng_i, a_rng1, asRng2_i, a_rng2, chkOf_d, a_seqI, a_cYes, items_tup, items_lst, litems_lst, ditems_tup, ditems_lst, toD_d, dataAll_nil, dataAll_cons, dataAll_mapd, asD_d, v_ii, v_addI, v_addS, v_addT, v_addL, v_neg, v_ltI, v_ltS, v_eq, v_ne, v_inS, v_notInS, v_ixS, v_ixR, v_ixT, v_ixL, v_cutS, v_cutT, v_cutL, v_lenS, v_lenR, v_lenT, v_lenL, v_abs, v_int1, v_listT, v_listL, v_tupleT, v_tupleL, v_isN, v_notN, isN_non, isN_r, isN_bl, isN_int, isN_str, isN_tup, isN_lst, ty_non, ty_bl, ty_int, ty_str, ty_tup, ty_lst, keyOf_i, keyOf_s, gAddI_i, gSubI_i, index_s, idxKind_s, isDat_d, isDat_r, svB_d, svB_r, moB_lst, moB_dk, natAbs10, asL_l, asK_k, itL_l, liL_l, tdL_l, tdL_k, dsL_k, dsL_l, tyL_l, tyL_k, lstAt_r, dkAt_r, items_r, litems_r, toD_r, dkS_r, dkS_tup, dkS_lst, dkS_dk, dkS_str, tyS_r, v_ixRef, v_lenRef, v_cutRef, ditems_r, v_listRef, v_tupleRef, v_eqRef, v_neRef, v_addRR, v_addRL, v_addLR, finO_nx, finO_rt, finO_bk, finO_ct, isTy_int_NoneType, isTy_int_bool, isTy_int_int, isTy_int_str, isTy_int_tuple, isTy_int_list, isTy_int_dict, isTy_bool_NoneType, isTy_bool_bool, isTy_bool_int, isTy_bool_str, isTy_bool_tuple, isTy_bool_list, isTy_bool_dict, isTy_str_NoneType, isTy_str_bool, isTy_str_int, isTy_str_str, isTy_str_tuple, isTy_str_list, isTy_str_dict, isTy_tuple_NoneType, isTy_tuple_bool, isTy_tuple_int, isTy_tuple_str, isTy_tuple_tuple, isTy_tuple_list, isTy_tuple_dict, isTy_list_NoneType, isTy_list_bool, isTy_list_int, isTy_list_str, isTy_list_tuple, isTy_list_list, isTy_list_dict, isTy_dict_NoneType, isTy_dict_bool, isTy_dict_int, isTy_dict_str, isTy_dict_tuple, isTy_dict_list, isTy_dict_dict, eo_non, eo_bl, eo_int, eo_str, eo_tup, eo_lst, ev_nn, ev_ii, ev_bb, ev_ss, ev_tt, ev_ll, ea_nn, ea_nc, ea_cn, ea_cc, ea_mapd, ev_non_bl, ev_non_int, ev_non_str, ev_non_tup, ev_non_lst, ev_bl_non, ev_bl_str, ev_bl_tup, ev_bl_lst, ev_int_non, ev_int_str, ev_int_tup, ev_int_lst, ev_str_non, ev_str_bl, ev_str_int, ev_str_tup, ev_str_lst, ev_tup_non, ev_tup_bl, ev_tup_int, ev_tup_str, ev_tup_lst, ev_lst_non, ev_lst_bl, ev_lst_int, ev_lst_str, ev_lst_tup, wipeE_nil, wipeE_cons, cast_0, cast_1, cast_2, cast_3, cast_4, cast_5, cast_6, cast_7, cast_8, cast_9, cast_10, cast_11, cast_12, keysOf_nil, keysOf_cons, mergeS_nil, mergeS_cons, inR_s, sz_lt, sz_le, leq_nn, leq_nc, leq_cn, leq_cc, key_ss, key_ii, key_is, key_si, findK_nil, findK_cons, mapS_nil, mapS_cons, putS_nil, putS_cons, Option.bind_some, Option.map_some, Option.bind_none, Option.map_none, List.set_cons_zero, List.set_cons_succ, List.set_nil, List.getElem?_cons_zero, List.getElem?_cons_succ, List.length_cons, List.length_nil, List.nil_append, List.cons_append, List.map_cons, List.map_nil, if_true, if_false, Bool.false_eq_true, reduceIte, List.all_cons, List.all_nil, Bool.and_true, Bool.true_and, Bool.and_false, Bool.false_and, Bool.not_true, Bool.not_false, Bool.or_false, Bool.or_true, Bool.false_or, Bool.true_or, and_self, and_true, true_and, Int.toNat_natCast, decide_true, decide_false, List.take_zero, List.take_nil, List.take_succ_cons, List.drop_succ_cons, List.drop_zero, List.drop_nil, List.set_nil, List.replicate_succ, List.replicate_zero, List.foldl_cons, List.foldl_nil, Nat.reduceSub, Nat.reduceAdd, Nat.reduceLT, Nat.reduceLeDiff, Nat.reduceEqDiff, Nat.reduceMul, Int.reduceAdd, Int.reduceSub, Int.reduceMul, Int.reduceLT, Int.reduceLE, Int.reduceNeg, Int.reducePow, Int.reduceToNat, or_true, true_or, or_false, false_or, false_and, and_false, Nat.reducePow, not_true_eq_false, not_false_eq_true, Nat.add_zero, Nat.zero_add, Nat.sub_self, Nat.sub_zero, reduceCtorEq, Option.map_map, Int.reduceEq, Int.reduceNe, Int.reduceMod, Int.reduceDiv, List.append_nil]
      refine ⟨by omega, _, _, _, _, _, _, rfl, rfl, isI_snoc hI, by simp; omega, by omega, by omega, ?_⟩
      intro o ho
      simp at ho
      rcases ho with rfl | rfl | rfl | rfl
      · exact okO_d _
      · exact hO _ (by simp)
      · exact hO _ (by simp)
      · exact hO _ (by simp)
    · rw [rngL_len] at h
      obtain ⟨_, mx, o4, o5, o6, o7, ss, h2, h3, hI, hz, m0, m1, hO⟩ := h
      exact ⟨rfl, mx, o4, o5, o6, o7, ss, h2, h3, hI, by omega, m0, m1, hO⟩
    · rintro ⟨o, δ, st⟩ ⟨h1, mx, o4, o5, o6, o7, ss, h2, h3, hI, hz, m0, m1, hO⟩
      dsimp only at h1 h2 h3
      subst h1 h2 h3
      obtain ⟨zs, rfl⟩ := ints_of hI
      simp -implicitDefEqProofs only [run_bind, run_some, run_none, run_map, a_var, a_c, a_op, a_un, a_chain, tst_b, a_test, a_and, a_or, a_not, a_andV, a_orV, a_notV, a_if, a_nil, a_cons, a_tup, a_lst, a_new, a_fn, a_isi, a_call, asI_i, a_part, a_noPart, a_cut, a_app, a_ext, a_index, a_sub, a_ps0, a_ps1, a_disp, a_lc, a_tt, a_skip, andThen_nx, andThen_rt, andThen_bk, andThen_ct, a_seq, a_expr, a_ret, a_retN, a_brk, a_cnt, a_ifS, a_set, a_aug, a_asg, two_eq, a_par, a_put, a_daug, a_for, a_scoped, frzO_nx, frzO_bk, frzO_ct, frzO_rt, frzS_d, frzS_r, frzE_nil, frzE_none, frzE_some, a_gN, a_gsNil, a_gsCons, a_gTp, asStr_s, a_strI, asRng_i, a_rng1, asRng2_i, a_rng2, chkOf_d, a_seqI, a_cYes, items_tup, items_lst, litems_lst, ditems_tup, ditems_lst, toD_d, dataAll_nil, dataAll_cons, dataAll_mapd, asD_d, v_ii, v_addI, v_addS, v_addT, v_addL, v_neg, v_ltI, v_ltS, v_eq, v_ne, v_inS, v_notInS, v_ixS, v_ixR, v_ixT, v_ixL, v_cutS, v_cutT, v_cutL, v_lenS, v_lenR, v_lenT, v_lenL, v_abs, v_int1, v_listT, v_listL, v_tupleT, v_tupleL, v_isN, v_notN, isN_non, isN_r, isN_bl, isN_int, isN_str, isN_tup, isN_lst, ty_non, ty_bl, ty_int, ty_str, ty_tup, ty_lst, keyOf_i, keyOf_s, gAddI_i, gSubI_i, index_s, idxKind_s, isDat_d, isDat_r, svB_d, svB_r, moB_lst, moB_dk, natAbs10, asL_l, asK_k, itL_l, liL_l, tdL_l, tdL_k, dsL_k, dsL_l, tyL_l, tyL_k, lstAt_r, dkAt_r, items_r, litems_r, toD_r, dkS_r, dkS_tup, dkS_lst, dkS_dk, dkS_str, tyS_r, v_ixRef, v_lenRef, v_cutRef, ditems_r, v_listRef, v_tupleRef, v_eqRef, v_neRef, v_addRR, v_addRL, v_addLR, finO_nx, finO_rt, finO_bk, finO_ct, isTy_int_NoneType, isTy_int_bool, isTy_int_int, isTy_int_str, isTy_int_tuple, isTy_int_list, isTy_int_dict, isTy_bool_NoneType, isTy_bool_bool, isTy_bool_int, isTy_bool_str, isTy_bool_tuple, isTy_bool_list, isTy_bool_dict, isTy_str_NoneType, isTy_str_bool, isTy_str_int, isTy_str_str, isTy_str_tuple, isTy_str_list, isTy_str_dict, isTy_tuple_NoneType, isTy_tuple_bool, isTy_tuple_int, isTy_tuple_str, isTy_tuple_tuple, isTy_tuple_list, isTy_tuple_dict, isTy_list_NoneType, isTy_list_bool, isTy_list_int, isTy_list_str, isTy_list_tuple, isTy_list_list, isTy_list_dict, isTy_dict_NoneType, isTy_dict_bool, isTy_dict_int, isTy_dict_str, isTy_dict_tuple, isTy_dict_list, isTy_dict_dict, eo_non, eo_bl, eo_int, eo_str, eo_tup, eo_lst, ev_nn, ev_ii, ev_bb, ev_ss, ev_tt, ev_ll, ea_nn, ea_nc, ea_cn, ea_cc, ea_mapd, ev_non_bl, ev_non_int, ev_non_str, ev_non_tup, ev_non_lst, ev_bl_non, ev_bl_str, ev_bl_tup, ev_bl_lst, ev_int_non, ev_int_str, ev_int_tup, ev_int_lst, ev_str_non, ev_str_bl, ev_str_int, ev_str_tup, ev_str_lst, ev_tup_non, ev_tup_bl, ev_tup_int, ev_tup_str, ev_tup_lst, ev_lst_non, ev_lst_bl, ev_lst_int, ev_lst_str, ev_lst_tup, wipeE_nil, wipeE_cons, cast_0, cast_1, cast_2, cast_3, cast_4, cast_5, cast_6, cast_7, cast_8, cast_9, cast_10, cast_11, cast_12, keysOf_nil, keysOf_cons, mergeS_nil, mergeS_cons, inR_s, sz_lt, sz_le, leq_nn, leq_nc, leq_cn, leq_cc, key_ss, key_ii, key_is, key_si, findK_nil, findK_cons, mapS_nil, mapS_cons, putS_nil, putS_cons, Option.bind_some, Option.map_some, Option.bind_none, Option.map_none, List.set_cons_zero, List.set_cons_succ, List.set_nil, List.getElem?_cons_zero, List.getElem?_cons_succ, List.length_cons, List.length_nil, List.nil_append, List.cons_append, List.map_cons, List.map_nil, if_true, if_false, Bool.false_eq_true, reduceIte, List.all_cons, List.all_nil, Bool.and_true, Bool.true_and, Bool.and_false, Bool.false_and, Bool.not_true, Bool.not_false, Bool.or_false, Bool.or_true, Bool.false_or, Bool.true_or, and_self, and_true, true_and, Int.toNat_natCast, decide_true, decide_false, List.take_zero, List.take_nil, List.take_succ_cons, List.drop_succ_cons, List.drop_zero, List.drop_nil, List.set_nil, List.replicate_succ, List.replicate_zero, List.foldl_cons, List.foldl_nil, Nat.reduceSub, Nat.reduceAdd, Nat.reduceLT, Nat.reduceLeDiff, Nat.reduceEqDiff, Nat.reduceMul, Int.reduceAdd, Int.reduceSub, Int.reduceMul, Int.reduceLT, Int.reduceLE, Int.reduceNeg, Int.reducePow, Int.reduceToNat, or_true, true_or, or_false, false_or, false_and, and_false, Nat.reducePow, not_true_eq_false, not_false_eq_true, Nat.add_zero, Nat.zero_add, Nat.sub_self, Nat.sub_zero, reduceCtorEq, Option.map_map, Int.reduceEq, Int.reduceNe, Int.reduceMod, Int.reduceDiv, List.append_nil]
      refine ⟨cutL zs none (some m), _, ?_, rfl, ?_⟩
      · have e : cutL (zs.map D.int) none (some m) = (cutL zs none (some m)).map D.int := by simp [cutL, List.map_take, List.map_drop]
        rw [e]
      · simp -implicitDefEqProofs only [run_bind, run_some, run_none, run_map, a_var, a_c, a_op, a_un, a_chain, tst_b, a_test, a_and, a_or, a_not, a_andV, a_orV, a_notV, a_if, a_nil, a_cons, a_tup, a_lst, a_new, a_fn, a_isi, a_call, asI_i, a_part, a_noPart, a_cut, a_app, a_ext, a_index, a_sub, a_ps0, a_ps1, a_disp, a_lc, a_tt, a_skip, andThen_nx, andThen_rt, andThen_bk, andThen_ct, a_seq, a_expr, a_ret, a_retN, a_brk, a_cnt, a_ifS, a_set, a_aug, a_asg, two_eq, a_par, a_put, a_daug, a_for, a_scoped, frzO_nx, frzO_bk, frzO_ct, frzO_rt, frzS_d, frzS_r, frzE_nil, frzE_none, frzE_some, a_gN, a_gsNil, a_gsCons, a_gTp, asStr_s, a_strI, asRng_i, a_rng1, asRng2_i, a_rng2, chkOf_d, a_seqI, a_cYes, items_tup, items_lst, litems_lst, ditems_tup, ditems_lst, toD_d, dataAll_nil, dataAll_cons, dataAll_mapd, asD_d, v_ii, v_addI, v_addS, v_addT, v_addL, v_neg, v_ltI, v_ltS, v_eq, v_ne, v_inS, v_notInS, v_ixS, v_ixR, v_ixT, v_ixL, v_cutS, v_cutT, v_cutL, v_lenS, v_lenR, v_lenT, v_lenL, v_abs, v_int1, v_listT, v_listL, v_tupleT, v_tupleL, v_isN, v_notN, isN_non, isN_r, isN_bl, isN_int, isN_str, isN_tup, isN_lst, ty_non, ty_bl, ty_int, ty_str, ty_tup, ty_lst, keyOf_i, keyOf_s, gAddI_i, gSubI_i, index_s, idxKind_s, isDat_d, isDat_r, svB_d, svB_r, moB_lst, moB_dk, natAbs10, asL_l, asK_k, itL_l, liL_l, tdL_l, tdL_k, dsL_k, dsL_l, tyL_l, tyL_k, lstAt_r, dkAt_r, items_r, litems_r, toD_r, dkS_r, dkS_tup, dkS_lst, dkS_dk, dkS_str, tyS_r, v_ixRef, v_lenRef, v_cutRef, ditems_r, v_listRef, v_tupleRef, v_eqRef, v_neRef, v_addRR, v_addRL, v_addLR, finO_nx, finO_rt, finO_bk, finO_ct, isTy_int_NoneType, isTy_int_bool, isTy_int_int, isTy_int_str, isTy_int_tuple, isTy_int_list, isTy_int_dict, isTy_bool_NoneType, isTy_bool_bool, isTy_bool_int, isTy_bool_str, isTy_bool_tuple, isTy_bool_list, isTy_bool_dict, isTy_str_NoneType, isTy_str_bool, isTy_str_int, isTy_str_str, isTy_str_tuple, isTy_str_list, isTy_str_dict, isTy_tuple_NoneType, isTy_tuple_bool, isTy_tuple_int, isTy_tuple_str, isTy_tuple_tuple, isTy_tuple_list, isTy_tuple_dict, isTy_list_NoneType, isTy_list_bool, isTy_list_int, isTy_list_str, isTy_list_tuple, isTy_list_list, isTy_list_dict, isTy_dict_NoneType, isTy_dict_bool, isTy_dict_int, isTy_dict_str, isTy_dict_tuple, isTy_dict_list, isTy_dict_dict, eo_non, eo_bl, eo_int, eo_str, eo_tup, eo_lst, ev_nn, ev_ii, ev_bb, ev_ss, ev_tt, ev_ll, ea_nn, ea_nc, ea_cn, ea_cc, ea_mapd, ev_non_bl, ev_non_int, ev_non_str, ev_non_tup, ev_non_lst, ev_bl_non, ev_bl_str, ev_bl_tup, ev_bl_lst, ev_int_non, ev_int_str, ev_int_tup, ev_int_lst, ev_str_non, ev_str_bl, ev_str_int, ev_str_tup, ev_str_lst, ev_tup_non, ev_tup_bl, ev_tup_int, ev_tup_str, ev_tup_lst, ev_lst_non, ev_lst_bl, ev_lst_int, ev_lst_str, ev_lst_tup, wipeE_nil, wipeE_cons, cast_0, cast_1, cast_2, cast_3, cast_4, cast_5, cast_6, cast_7, cast_8, cast_9, cast_10, cast_11, cast_12, keysOf_nil, keysOf_cons, mergeS_nil, mergeS_cons, inR_s, sz_lt, sz_le, leq_nn, leq_nc, leq_cn, leq_cc, key_ss, key_ii, key_is, key_si, findK_nil, findK_cons, mapS_nil, mapS_cons, putS_nil, putS_cons, Option.bind_some, Option.map_some, Option.bind_none, Option.map_none, List.set_cons_zero, List.set_cons_succ, List.set_nil, List.getElem?_cons_zero, List.getElem?_cons_succ, List.length_cons, List.length_nil, List.nil_append, List.cons_append, List.map_cons, List.map_nil, if_true, if_false, Bool.false_eq_true, reduceIte, List.all_cons, List.all_nil, Bool.and_true, Bool.true_and, Bool.and_false, Bool.false_and, Bool.not_true, Bool.not_false, Bool.or_false, Bool.or_true, Bool.false_or, Bool.true_or, and_self, and_true, true_and, Int.toNat_natCast, decide_true, decide_false, List.take_zero, List.take_nil, List.take_succ_cons, List.drop_succ_cons, List.drop_zero, List.drop_nil, List.set_nil, List.replicate_succ, List.replicate_zero, List.foldl_cons, List.foldl_nil, Nat.reduceSub, Nat.reduceAdd, Nat.reduceLT, Nat.reduceLeDiff, Nat.reduceEqDiff, Nat.reduceMul, Int.reduceAdd, Int.reduceSub, Int.reduceMul, Int.reduceLT, Int.reduceLE, Int.reduceNeg, Int.reducePow, Int.reduceToNat, or_true, true_or, or_false, false_or, false_and, and_false, Nat.reducePow, not_true_eq_false, not_false_eq_true, Nat.add_zero, Nat.zero_add, Nat.sub_self, Nat.sub_zero, reduceCtorEq, Option.map_map, Int.reduceEq, Int.reduceNe, Int.reduceMod, Int.reduceDiv, List.append_nil]
        rw [frzE_dat _ _ _ hO]
        simp

/-! ### the draws that are left -/
def wM (w : MO) : Prop := ∃ (ds : List Int) (k : Int), w = .dk [(.inr ⟨#[100, 114, 97, 119, 115]⟩, .d (.lst (ds.map .int))), (.inr ⟨#[97, 116]⟩, .d (.int k))] ∧ 0 ≤ k
theorem wM_mo {w : MO} (h : wM w) : moB 1 w = true := by
  obtain ⟨ds, k, rfl, _⟩ := h
  rfl
theorem next_ok {w : MO} (h : wM w) (m : Int) (hm : 0 < m) : Run (F__law_next [.r 0, .d (.int m)] [w]) fun p => ∃ n w', p = (.d (.int n), [w']) ∧ 0 ≤ n ∧ n < m ∧ wM w' := by
  obtain ⟨ds, k, rfl, hk⟩ := h
  have hl := line_big
  have e1 : (Sum.inr ⟨#[97, 116]⟩ : Key) ≠ .inr ⟨#[100, 114, 97, 119, 115]⟩ := by decide
  unfold F__law_next g__law_next
  rw [a_runF]
  simp -implicitDefEqProofs only [run_bind, run_some, run_none, run_map, a_var, a_c, a_op, a_un, a_chain, tst_b, a_test, a_and, a_or, a_not, a_andV, a_orV, a_notV, a_if, a_nil, a_cons, a_tup, a_lst, a_new, a_fn, a_isi, a_call, asI_i, a_part, a_noPart, a_cut, a_app, a_ext, a_index, a_sub, a_ps0, a_ps1, a_disp, a_lc, a_tt, a_skip, andThen_nx, andThen_rt, andThen_bk, andThen_ct, a_seq, a_expr, a_ret, a_retN, a_brk, a_cnt, a_ifS, a_set, a_aug, a_asg, two_eq, a_par, a_put, a_daug, a_for, a_scoped, frzO_nx, frzO_bk, frzO_ct, frzO_rt, frzS_d, frzS_r, frzE_nil, frzE_none, frzE_some, a_gN, a_gsNil, a_gsCons, a_gTp, asStr_s, a_strI, asRng_i, a_rng1, asRng2_i, a_rng2, chkOf_d, a_seqI, a_cYes, items_tup, items_lst, litems_lst, ditems_tup, ditems_lst, toD_d, dataAll_nil, dataAll_cons, dataAll_mapd, asD_d, v_ii, v_addI, v_addS, v_addT, v_addL, v_neg, v_ltI, v_ltS, v_eq, v_ne, v_inS, v_notInS, v_ixS, v_ixR, v_ixT, v_ixL, v_cutS, v_cutT, v_cutL, v_lenS, v_lenR, v_lenT, v_lenL, v_abs, v_int1, v_listT, v_listL, v_tupleT, v_tupleL, v_isN, v_notN, isN_non, isN_r, isN_bl, isN_int, isN_str, isN_tup, isN_lst, ty_non, ty_bl, ty_int, ty_str, ty_tup, ty_lst, keyOf_i, keyOf_s, gAddI_i, gSubI_i, index_s, idxKind_s, isDat_d, isDat_r, svB_d, svB_r, moB_lst, moB_dk, natAbs10, asL_l, asK_k, itL_l, liL_l, tdL_l, tdL_k, dsL_k, dsL_l, tyL_l, tyL_k, lstAt_r, dkAt_r, items_r, litems_r, toD_r, dkS_r, dkS_tup, dkS_lst, dkS_dk, dkS_str, tyS_r, v_ixRef, v_lenRef, v_cutRef, ditems_r, v_listRef, v_tupleRef, v_eqRef, v_neRef, v_addRR, v_addRL, v_addLR, finO_nx, finO_rt, finO_bk, finO_ct, isTy_int_NoneType, isTy_int_bool, isTy_int_int, isTy_int_str, isTy_int_tuple, isTy_int_list, isTy_int_dict, isTy_bool_NoneType, isTy_bool_bool, isTy_bool_int, isTy_bool_str, isTy_bool_tuple, isTy_bool_list, isTy_bool_dict, isTy_str_NoneType, isTy_str_bool, isTy_str_int, isTy_str_str, isTy_str_tuple, isTy_str_list, isTy_str_dict, isTy_tuple_NoneType, isTy_tuple_bool, isTy_tuple_int, isTy_tuple_str, isTy_tuple_tuple, isTy_tuple_list, isTy_tuple_dict, isTy_list_NoneType, isTy_list_bool, isTy_list_int, isTy_list_str, isTy_list_tuple, isTy_list_list, isTy_list_dict, isTy_dict_NoneType, isTy_dict_bool, isTy_dict_int, isTy_dict_str, isTy_dict_tuple, isTy_dict_list, isTy_dict_dict, eo_non, eo_bl, eo_int, eo_str, eo_tup, eo_lst, ev_nn, ev_ii, ev_bb, ev_ss, ev_tt, ev_ll, ea_nn, ea_nc, ea_cn, ea_cc, ea_mapd, ev_non_bl, ev_non_int, ev_non_str, ev_non_tup, ev_non_lst, ev_bl_non, ev_bl_str, ev_bl_tup, ev_bl_lst, ev_int_non, ev_int_str, ev_int_tup, ev_int_lst, ev_str_non, ev_str_bl, ev_str_int, ev_str_tup, ev_str_lst, ev_tup_non, ev_tup_bl, ev_tup_int, ev_tup_str, ev_tup_lst, ev_lst_non, ev_lst_bl, ev_lst_int, ev_lst_str, ev_lst_tup, wipeE_nil, wipeE_cons, cast_0, cast_1, cast_2, cast_3, cast_4, cast_5, cast_6, cast_7, cast_8, cast_9, cast_10, cast_11, cast_12, keysOf_nil, keysOf_cons, mergeS_nil, mergeS_cons, inR_s, sz_lt, sz_le, leq_nn, leq_nc, leq_cn, leq_cc, key_ss, key_ii, key_is, key_si, findK_nil, findK_cons, mapS_nil, mapS_cons, putS_nil, putS_cons, Option.bind_some, Option.map_some, Option.bind_none, Option.map_none, List.set_cons_zero, List.set_cons_succ, List.set_nil, List.getElem?_cons_zero, List.getElem?_cons_succ, List.length_cons, List.length_nil, List.nil_append, List.cons_append, List.map_cons, List.map_nil, if_true, if_false, Bool.false_eq_true, reduceIte, List.all_cons, List.all_nil, Bool.and_true, Bool.true_and, Bool.and_false, Bool.false_and, Bool.not_true, Bool.not_false, Bool.or_false, Bool.or_true, Bool.false_or, Bool.true_or, and_self, and_true, true_and, Int.toNat_natCast, decide_true, decide_false, List.take_zero, List.take_nil, List.take_succ_cons, List.drop_succ_cons, List.drop_zero, List.drop_nil, List.set_nil, List.replicate_succ, List.replicate_zero, List.foldl_cons, List.foldl_nil, Nat.reduceSub, Nat.reduceAdd, Nat.reduceLT, Nat.reduceLeDiff, Nat.reduceEqDiff, Nat.reduceMul, Int.reduceAdd, Int.reduceSub, Int.reduceMul, Int.reduceLT, Int.reduceLE, Int.reduceNeg, Int.reducePow, Int.reduceToNat, or_true, true_or, or_false, false_or, false_and, and_false, Nat.reducePow, not_true_eq_false, not_false_eq_true, Nat.add_zero, Nat.zero_add, Nat.sub_self, Nat.sub_zero, reduceCtorEq, Option.map_map, Int.reduceEq, Int.reduceNe, Int.reduceMod, Int.reduceDiv, List.append_nil]
  by_cases c : (ds.length : Int) < k + 1
  · simp -implicitDefEqProofs only [run_bind, run_some, run_none, run_map, a_var, a_c, a_op, a_un, a_chain, tst_b, a_test, a_and, a_or, a_not, a_andV, a_orV, a_notV, a_if, a_nil, a_cons, a_tup, a_lst, a_new, a_fn, a_isi, a_call, asI_i, a_part, a_noPart, a_cut, a_app, a_ext, a_index, a_sub, a_ps0, a_ps1, a_disp, a_lc, a_tt, a_skip, andThen_nx, andThen_rt, andThen_bk, andThen_ct, a_seq, a_expr, a_ret, a_retN, a_brk, a_cnt, a_ifS, a_set, a_aug, a_asg, two_eq, a_par, a_put, a_daug, a_for, a_scoped, frzO_nx, frzO_bk, frzO_ct, frzO_rt, frzS_d, frzS_r, frzE_nil, frzE_none, frzE_some, a_gN, a_gsNil, a_gsCons, a_gTp, asStr_s, a_strI, asRng_i, a_rng1, asRng2_i, a_rng2, chkOf_d, a_seqI, a_cYes, items_tup, items_lst, litems_lst, ditems_tup, ditems_lst, toD_d, dataAll_nil, dataAll_cons, dataAll_mapd, asD_d, v_ii, v_addI, v_addS, v_addT, v_addL, v_neg, v_ltI, v_ltS, v_eq, v_ne, v_inS, v_notInS, v_ixS, v_ixR, v_ixT, v_ixL, v_cutS, v_cutT, v_cutL, v_lenS, v_lenR, v_lenT, v_lenL, v_abs, v_int1, v_listT, v_listL, v_tupleT, v_tupleL, v_isN, v_notN, isN_non, isN_r, isN_bl, isN_int, isN_str, isN_tup, isN_lst, ty_non, ty_bl, ty_int, ty_str, ty_tup, ty_lst, keyOf_i, keyOf_s, gAddI_i, gSubI_i, index_s, idxKind_s, isDat_d, isDat_r, svB_d, svB_r, moB_lst, moB_dk, natAbs10, asL_l, asK_k, itL_l, liL_l, tdL_l, tdL_k, dsL_k, dsL_l, tyL_l, tyL_k, lstAt_r, dkAt_r, items_r, litems_r, toD_r, dkS_r, dkS_tup, dkS_lst, dkS_dk, dkS_str, tyS_r, v_ixRef, v_lenRef, v_cutRef, ditems_r, v_listRef, v_tupleRef, v_eqRef, v_neRef, v_addRR, v_addRL, v_addLR, finO_nx, finO_rt, finO_bk, finO_ct, isTy_int_NoneType, isTy_int_bool, isTy_int_int, isTy_int_str, isTy_int_tuple, isTy_int_list, isTy_int_dict, isTy_bool_NoneType, isTy_bool_bool, isTy_bool_int, isTy_bool_str, isTy_bool_tuple, isTy_bool_list, isTy_bool_dict, isTy_str_NoneType, isTy_str_bool, isTy_str_int, isTy_str_str, isTy_str_tuple, isTy_str_list, isTy_str_dict, isTy_tuple_NoneType, isTy_tuple_bool, isTy_tuple_int, isTy_tuple_str, isTy_tuple_tuple, isTy_tuple_list, isTy_tuple_dict, isTy_list_NoneType, isTy_list_bool, isTy_list_int, isTy_list_str, isTy_list_tuple, isTy_list_list, isTy_list_dict, isTy_dict_NoneType, isTy_dict_bool, isTy_dict_int, isTy_dict_str, isTy_dict_tuple, isTy_dict_list, isTy_dict_dict, eo_non, eo_bl, eo_int, eo_str, eo_tup, eo_lst, ev_nn, ev_ii, ev_bb, ev_ss, ev_tt, ev_ll, ea_nn, ea_nc, ea_cn, ea_cc, ea_mapd, ev_non_bl, ev_non_int, ev_non_str, ev_non_tup, ev_non_lst, ev_bl_non, ev_bl_str, ev_bl_tup, ev_bl_lst, ev_int_non, ev_int_str, ev_int_tup, ev_int_lst, ev_str_non, ev_str_bl, ev_str_int, ev_str_tup, ev_str_lst, ev_tup_non, ev_tup_bl, ev_tup_int, ev_tup_str, ev_tup_lst, ev_lst_non, ev_lst_bl, ev_lst_int, ev_lst_str, ev_lst_tup, wipeE_nil, wipeE_cons, cast_0, cast_1, cast_2, cast_3, cast_4, cast_5, cast_6, cast_7, cast_8, cast_9, cast_10, cast_11, cast_12, keysOf_nil, keysOf_cons, mergeS_nil, mergeS_cons, inR_s, sz_lt, sz_le, leq_nn, leq_nc, leq_cn, leq_cc, key_ss, key_ii, key_is, key_si, findK_nil, findK_cons, mapS_nil, mapS_cons, putS_nil, putS_cons, Option.bind_some, Option.map_some, Option.bind_none, Option.map_none, List.set_cons_zero, List.set_cons_succ, List.set_nil, List.getElem?_cons_zero, List.getElem?_cons_succ, List.length_cons, List.length_nil, List.nil_append, List.cons_append, List.map_cons, List.map_nil, if_true, if_false, Bool.false_eq_true, reduceIte, List.all_cons, List.all_nil, Bool.and_true, Bool.true_and, Bool.and_false, Bool.false_and, Bool.not_true, Bool.not_false, Bool.or_false, Bool.or_true, Bool.false_or, Bool.true_or, and_self, and_true, true_and, Int.toNat_natCast, decide_true, decide_false, List.take_zero, List.take_nil, List.take_succ_cons, List.drop_succ_cons, List.drop_zero, List.drop_nil, List.set_nil, List.replicate_succ, List.replicate_zero, List.foldl_cons, List.foldl_nil, Nat.reduceSub, Nat.reduceAdd, Nat.reduceLT, Nat.reduceLeDiff, Nat.reduceEqDiff, Nat.reduceMul, Int.reduceAdd, Int.reduceSub, Int.reduceMul, Int.reduceLT, Int.reduceLE, Int.reduceNeg, Int.reducePow, Int.reduceToNat, or_true, true_or, or_false, false_or, false_and, and_false, Nat.reducePow, not_true_eq_false, not_false_eq_true, Nat.add_zero, Nat.zero_add, Nat.sub_self, Nat.sub_zero, reduceCtorEq, Option.map_map, Int.reduceEq, Int.reduceNe, Int.reduceMod, Int.reduceDiv, List.append_nil, List.length_map, c]
    exact ⟨0, _, rfl, by omega, by omega, ds, k + 1, rfl, by omega⟩
  · simp -implicitDefEqProofs only [run_bind, run_some, run_none, run_map, a_var, a_c, a_op, a_un, a_chain, tst_b, a_test, a_and, a_or, a_not, a_andV, a_orV, a_notV, a_if, a_nil, a_cons, a_tup, a_lst, a_new, a_fn, a_isi, a_call, asI_i, a_part, a_noPart, a_cut, a_app, a_ext, a_index, a_sub, a_ps0, a_ps1, a_disp, a_lc, a_tt, a_skip, andThen_nx, andThen_rt, andThen_bk, andThen_ct, a_seq, a_expr, a_ret, a_retN, a_brk, a_cnt, a_ifS, a_set, a_aug, a_asg, two_eq, a_par, a_put, a_daug, a_for, a_scoped, frzO_nx, frzO_bk, frzO_ct, frzO_rt, frzS_d, frzS_r, frzE_nil, frzE_none, frzE_some, a_gN, a_gsNil, a_gsCons, a_gTp, asStr_s, a_strI, asRng_i, a_rng1, asRng2_i, a_rng2, chkOf_d, a_seqI, a_cYes, items_tup, items_lst, litems_lst, ditems_tup, ditems_lst, toD_d, dataAll_nil, dataAll_cons, dataAll_mapd, asD_d, v_ii, v_addI, v_addS, v_addT, v_addL, v_neg, v_ltI, v_ltS, v_eq, v_ne, v_inS, v_notInS, v_ixS, v_ixR, v_ixT, v_ixL, v_cutS, v_cutT, v_cutL, v_lenS, v_lenR, v_lenT, v_lenL, v_abs, v_int1, v_listT, v_listL, v_tupleT, v_tupleL, v_isN, v_notN, isN_non, isN_r, isN_bl, isN_int, isN_str, isN_tup, isN_lst, ty_non, ty_bl, ty_int, ty_str, ty_tup, ty_lst, keyOf_i, keyOf_s, gAddI_i, gSubI_i, index_s, idxKind_s, isDat_d, isDat_r, svB_d, svB_r, moB_lst, moB_dk, natAbs10, asL_l, asK_k, itL_l, liL_l, tdL_l, tdL_k, dsL_k, dsL_l, tyL_l, tyL_k, lstAt_r, dkAt_r, items_r, litems_r, toD_r, dkS_r, dkS_tup, dkS_lst, dkS_dk, dkS_str, tyS_r, v_ixRef, v_lenRef, v_cutRef, ditems_r, v_listRef, v_tupleRef, v_eqRef, v_neRef, v_addRR, v_addRL, v_addLR, finO_nx, finO_rt, finO_bk, finO_ct, isTy_int_NoneType, isTy_int_bool, isTy_int_int, isTy_int_str, isTy_int_tuple, isTy_int_list, isTy_int_dict, isTy_bool_NoneType, isTy_bool_bool, isTy_bool_int, isTy_bool_str, isTy_bool_tuple, isTy_bool_list, isTy_bool_dict, isTy_str_NoneType, isTy_str_bool, isTy_str_int, isTy_str_str, isTy_str_tuple, isTy_str_list, isTy_str_dict, isTy_tuple_NoneType, isTy_tuple_bool, isTy_tuple_int, isTy_tuple_str, isTy_tuple_tuple, isTy_tuple_list, isTy_tuple_dict, isTy_list_NoneType, isTy_list_bool, isTy_list_int, isTy_list_str, isTy_list_tuple, isTy_list_list, isTy_list_dict, isTy_dict_NoneType, isTy_dict_bool, isTy_dict_int, isTy_dict_str, isTy_dict_tuple, isTy_dict_list, isTy_dict_dict, eo_non, eo_bl, eo_int, eo_str, eo_tup, eo_lst, ev_nn, ev_ii, ev_bb, ev_ss, ev_tt, ev_ll, ea_nn, ea_nc, ea_cn, ea_cc, ea_mapd, ev_non_bl, ev_non_int, ev_non_str, ev_non_tup, ev_non_lst, ev_bl_non, ev_bl_str, ev_bl_tup, ev_bl_lst, ev_int_non, ev_int_str, ev_int_tup, ev_int_lst, ev_str_non, ev_str_bl, ev_str_int, ev_str_tup, ev_str_lst, ev_tup_non, ev_tup_bl, ev_tup_int, ev_tup_str, ev_tup_lst, ev_lst_non, ev_lst_bl, ev_lst_int, ev_lst_str, ev_lst_tup, wipeE_nil, wipeE_cons, cast_0, cast_1, cast_2, cast_3, cast_4, cast_5, cast_6, cast_7, cast_8, cast_9, cast_10, cast_11, cast_12, keysOf_nil, keysOf_cons, mergeS_nil, mergeS_cons, inR_s, sz_lt, sz_le, leq_nn, leq_nc, leq_cn, leq_cc, key_ss, key_ii, key_is, key_si, findK_nil, findK_cons, mapS_nil, mapS_cons, putS_nil, putS_cons, Option.bind_some, Option.map_some, Option.bind_none, Option.map_none, List.set_cons_zero, List.set_cons_succ, List.set_nil, List.getElem?_cons_zero, List.getElem?_cons_succ, List.length_cons, List.length_nil, List.nil_append, List.cons_append, List.map_cons, List.map_nil, if_true, if_false, Bool.false_eq_true, reduceIte, List.all_cons, List.all_nil, Bool.and_true, Bool.true_and, Bool.and_false, Bool.false_and, Bool.not_true, Bool.not_false, Bool.or_false, Bool.or_true, Bool.false_or, Bool.true_or, and_self, and_true, true_and, Int.toNat_natCast, decide_true, decide_false, List.take_zero, List.take_nil, List.take_succ_cons, List.drop_succ_cons, List.drop_zero, List.drop_nil, List.set_nil, List.replicate_succ, List.replicate_zero, List.foldl_cons, List.foldl_nil, Nat.reduceSub, Nat.reduceAdd, Nat.reduceLT, Nat.reduceLeDiff, Nat.reduceEqDiff, Nat.reduceMul, Int.reduceAdd, Int.reduceSub, Int.reduceMul, Int.reduceLT, Int.reduceLE, Int.reduceNeg, Int.reducePow, Int.reduceToNat, or_true, true_or, or_false, false_or, false_and, and_false, Nat.reducePow, not_true_eq_false, not_false_eq_true, Nat.add_zero, Nat.zero_add, Nat.sub_self, Nat.sub_zero, reduceCtorEq, Option.map_map, Int.reduceEq, Int.reduceNe, Int.reduceMod, Int.reduceDiv, List.append_nil, List.length_map, c]
    have hk2 : k.toNat < ds.length := by omega
    have ek : (k.toNat : Int) = k := by omega
    have e2 : atI (ds.map D.int) (k + 1 - 1) = some (.int ds[k.toNat]) := by
      rw [show k + 1 - 1 = ((k.toNat : Nat) : Int) by omega, atI_lt (by simpa using hk2)]
      simp
    simp -implicitDefEqProofs only [run_bind, run_some, run_none, run_map, a_var, a_c, a_op, a_un, a_chain, tst_b, a_test, a_and, a_or, a_not, a_andV, a_orV, a_notV, a_if, a_nil, a_cons, a_tup, a_lst, a_new, a_fn, a_isi, a_call, asI_i, a_part, a_noPart, a_cut, a_app, a_ext, a_index, a_sub, a_ps0, a_ps1, a_disp, a_lc, a_tt, a_skip, andThen_nx, andThen_rt, andThen_bk, andThen_ct, a_seq, a_expr, a_ret, a_retN, a_brk, a_cnt, a_ifS, a_set, a_aug, a_asg, two_eq, a_par, a_put, a_daug, a_for, a_scoped, frzO_nx, frzO_bk, frzO_ct, frzO_rt, frzS_d, frzS_r, frzE_nil, frzE_none, frzE_some, a_gN, a_gsNil, a_gsCons, a_gTp, asStr_s, a_strI, asRng_i, a_rng1, asRng2_i, a_rng2, chkOf_d, a_seqI, a_cYes, items_tup, items_lst, litems_lst, ditems_tup, ditems_lst, toD_d, dataAll_nil, dataAll_cons, dataAll_mapd, asD_d, v_ii, v_addI, v_addS, v_addT, v_addL, v_neg, v_ltI, v_ltS, v_eq, v_ne, v_inS, v_notInS, v_ixS, v_ixR, v_ixT, v_ixL, v_cutS, v_cutT, v_cutL, v_lenS, v_lenR, v_lenT, v_lenL, v_abs, v_int1, v_listT, v_listL, v_tupleT, v_tupleL, v_isN, v_notN, isN_non, isN_r, isN_bl, isN_int, isN_str, isN_tup, isN_lst, ty_non, ty_bl, ty_int, ty_str, ty_tup, ty_lst, keyOf_i, keyOf_s, gAddI_i, gSubI_i, index_s, idxKind_s, isDat_d, isDat_r, svB_d, svB_r, moB_lst, moB_dk, natAbs10, asL_l, asK_k, itL_l, liL_l, tdL_l, tdL_k, dsL_k, dsL_l, tyL_l, tyL_k, lstAt_r, dkAt_r, items_r, litems_r, toD_r, dkS_r, dkS_tup, dkS_lst, dkS_dk, dkS_str, tyS_r, v_ixRef, v_lenRef, v_cutRef, ditems_r, v_listRef, v_tupleRef, v_eqRef, v_neRef, v_addRR, v_addRL, v_addLR, finO_nx, finO_rt, finO_bk, finO_ct, isTy_int_NoneType, isTy_int_bool, isTy_int_int, isTy_int_str, isTy_int_tuple, isTy_int_list, isTy_int_dict, isTy_bool_NoneType, isTy_bool_bool, isTy_bool_int, isTy_bool_str, isTy_bool_tuple, isTy_bool_list, isTy_bool_dict, isTy_str_NoneType, isTy_str_bool, isTy_str_int, isTy_str_str, isTy_str_tuple, isTy_str_list, isTy_str_dict, isTy_tuple_NoneType, isTy_tuple_bool, isTy_tuple_int, isTy_tuple_str, isTy_tuple_tuple, isTy_tuple_list, isTy_tuple_dict, isTy_list_NoneType, isTy_list_bool, isTy_list_int, isTy_list_str, isTy_list_tuple, isTy_list_list, isTy_list_dict, isTy_dict_NoneType, isTy_dict_bool, isTy_dict_int, isTy_dict_str, isTy_dict_tuple, isTy_dict_list, isTy_dict_dict, eo_non, eo_bl, eo_int, eo_str, eo_tup, eo_lst, ev_nn, ev_ii, ev_bb, ev_ss, ev_tt, ev_ll, ea_nn, ea_nc, ea_cn, ea_cc, ea_mapd, ev_non_bl, ev_non_int, ev_non_str, ev_non_tup, ev_non_lst, ev_bl_non, ev_bl_str, ev_bl_tup, ev_bl_lst, ev_int_non, ev_int_str, ev_int_tup, ev_int_lst, ev_str_non, ev_str_bl, ev_str_int, ev_str_tup, ev_str_lst, ev_tup_non, ev_tup_bl, ev_tup_int, ev_tup_str, ev_tup_lst, ev_lst_non, ev_lst_bl, ev_lst_int, ev_lst_str, ev_lst_tup, wipeE_nil, wipeE_cons, cast_0, cast_1, cast_2, cast_3, cast_4, cast_5, cast_6, cast_7, cast_8, cast_9, cast_10, cast_11, cast_12, keysOf_nil, keysOf_cons, mergeS_nil, mergeS_cons, inR_s, sz_lt, sz_le, leq_nn, leq_nc, leq_cn, leq_cc, key_ss, key_ii, key_is, key_si, findK_nil, findK_cons, mapS_nil, mapS_cons, putS_nil, putS_cons, Option.bind_some, Option.map_some, Option.bind_none, Option.map_none, List.set_cons_zero, List.set_cons_succ, List.set_nil, List.getElem?_cons_zero, List.getElem?_cons_succ, List.length_cons, List.length_nil, List.nil_append, List.cons_append, List.map_cons, List.map_nil, if_true, if_false, Bool.false_eq_true, reduceIte, List.all_cons, List.all_nil, Bool.and_true, Bool.true_and, Bool.and_false, Bool.false_and, Bool.not_true, Bool.not_false, Bool.or_false, Bool.or_true, Bool.false_or, Bool.true_or, and_self, and_true, true_and, Int.toNat_natCast, decide_true, decide_false, List.take_zero, List.take_nil, List.take_succ_cons, List.drop_succ_cons, List.drop_zero, List.drop_nil, List.set_nil, List.replicate_succ, List.replicate_zero, List.foldl_cons, List.foldl_nil, Nat.reduceSub, Nat.reduceAdd, Nat.reduceLT, Nat.reduceLeDiff, Nat.reduceEqDiff, Nat.reduceMul, Int.reduceAdd, Int.reduceSub, Int.reduceMul, Int.reduceLT, Int.reduceLE, Int.reduceNeg, Int.reducePow, Int.reduceToNat, or_true, true_or, or_false, false_or, false_and, and_false, Nat.reducePow, not_true_eq_false, not_false_eq_true, Nat.add_zero, Nat.zero_add, Nat.sub_self, Nat.sub_zero, reduceCtorEq, Option.map_map, Int.reduceEq, Int.reduceNe, Int.reduceMod, Int.reduceDiv, List.append_nil, e2, hm]
    exact ⟨_, _, rfl, Int.emod_nonneg _ (by omega), Int.emod_lt_of_pos _ hm, ds, k + 1, rfl, by omega⟩
theorem kOf_r0 (r : List SV) (h : r.all isDat = true) : kOf (.r 0 :: r) = 1 := by
  show max 1 (kOf r) = 1
  rw [kOf_dat h]
  rfl
theorem c_next {w : MO} (h : wM w) (r : Store) (m : Int) (hm : 0 < m) : Run (callM F__law_next [.r 0, .d (.int m)] (w :: r)) fun p => ∃ n w', p = (.d (.int n), w' :: r) ∧ 0 ≤ n ∧ n < m ∧ wM w' := by
  rw [callM_one (kOf_r0 _ rfl) (wM_mo h), run_bind]
  refine (next_ok h m hm).mono ?_
  rintro p ⟨n, w', rfl, h1, h2, h3⟩
  exact run_some.mpr ⟨n, w', rfl, h1, h2, h3⟩
/-- what a pick is of -/
theorem pick_ok {w : MO} (h : wM w) {x : D} {ss : List D} (hl : ∀ st, dLen st [.d x] = some (.d (.int (ss.length : Nat)))) (hi : ∀ st i, dIx st (.d x) (.d (.int i)) = (atI ss i).map .d) (hn : ss ≠ []) :
    Run (F__law_pick [.r 0, .d x] [w]) fun p => ∃ d ∈ ss, ∃ w', p = (.d d, [w']) ∧ wM w' := by
  have hz : 0 < ss.length := by
    cases ss with
    | nil => exact absurd rfl hn
    | cons => simp
  unfold F__law_pick g__law_pick
  rw [a_runF]
  simp -implicitDefEqProofs only [run_bind, run_some, run_none, run_map, a_var, a_c, a_op, a_un, a_chain, tst_b, a_test, a_and, a_or, a_not, a_andV, a_orV, a_notV, a_if, a_nil, a_cons, a_tup, a_lst, a_new, a_fn, a_isi, a_call, asI_i, a_part, a_noPart, a_cut, a_app, a_ext, a_index, a_sub, a_ps0, a_ps1, a_disp, a_lc, a_tt, a_skip, andThen_nx, andThen_rt, andThen_bk, andThen_ct, a_seq, a_expr, a_ret, a_retN, a_brk, a_cnt, a_ifS, a_set, a_aug, a_asg, two_eq, a_par, a_put, a_daug, a_for, a_scoped, frzO_nx, frzO_bk, frzO_ct, frzO_rt, frzS_d, frzS_r, frzE_nil, frzE_none, frzE_some, a_gN, a_gsNil, a_gsCons, a_gTp, asStr_s, a_strI, asRng_i, a_rng1, asRng2_i, a_rng2, chkOf_d, a_seqI, a_cYes, items_tup, items_lst, litems_lst, ditems_tup, ditems_lst, toD_d, dataAll_nil, dataAll_cons, dataAll_mapd, asD_d, v_ii, v_addI, v_addS, v_addT, v_addL, v_neg, v_ltI, v_ltS, v_eq, v_ne, v_inS, v_notInS, v_ixS, v_ixR, v_ixT, v_ixL, v_cutS, v_cutT, v_cutL, v_lenS, v_lenR, v_lenT, v_lenL, v_abs, v_int1, v_listT, v_listL, v_tupleT, v_tupleL, v_isN, v_notN, isN_non, isN_r, isN_bl, isN_int, isN_str, isN_tup, isN_lst, ty_non, ty_bl, ty_int, ty_str, ty_tup, ty_lst, keyOf_i, keyOf_s, gAddI_i, gSubI_i, index_s, idxKind_s, isDat_d, isDat_r, svB_d, svB_r, moB_lst, moB_dk, natAbs10, asL_l, asK_k, itL_l, liL_l, tdL_l, tdL_k, dsL_k, dsL_l, tyL_l, tyL_k, lstAt_r, dkAt_r, items_r, litems_r, toD_r, dkS_r, dkS_tup, dkS_lst, dkS_dk, dkS_str, tyS_r, v_ixRef, v_lenRef, v_cutRef, ditems_r, v_listRef, v_tupleRef, v_eqRef, v_neRef, v_addRR, v_addRL, v_addLR, finO_nx, finO_rt, finO_bk, finO_ct, isTy_int_NoneType, isTy_int_bool, isTy_int_int, isTy_int_str, isTy_int_tuple, isTy_int_list, isTy_int_dict, isTy_bool_NoneType, isTy_bool_bool, isTy_bool_int, isTy_bool_str, isTy_bool_tuple, isTy_bool_list, isTy_bool_dict, isTy_str_NoneType, isTy_str_bool, isTy_str_int, isTy_str_str, isTy_str_tuple, isTy_str_list, isTy_str_dict, isTy_tuple_NoneType, isTy_tuple_bool, isTy_tuple_int, isTy_tuple_str, isTy_tuple_tuple, isTy_tuple_list, isTy_tuple_dict, isTy_list_NoneType, isTy_list_bool, isTy_list_int, isTy_list_str, isTy_list_tuple, isTy_list_list, isTy_list_dict, isTy_dict_NoneType, isTy_dict_bool, isTy_dict_int, isTy_dict_str, isTy_dict_tuple, isTy_dict_list, isTy_dict_dict, eo_non, eo_bl, eo_int, eo_str, eo_tup, eo_lst, ev_nn, ev_ii, ev_bb, ev_ss, ev_tt, ev_ll, ea_nn, ea_nc, ea_cn, ea_cc, ea_mapd, ev_non_bl, ev_non_int, ev_non_str, ev_non_tup, ev_non_lst, ev_bl_non, ev_bl_str, ev_bl_tup, ev_bl_lst, ev_int_non, ev_int_str, ev_int_tup, ev_int_lst, ev_str_non, ev_str_bl, ev_str_int, ev_str_tup, ev_str_lst, ev_tup_non, ev_tup_bl, ev_tup_int, ev_tup_str, ev_tup_lst, ev_lst_non, ev_lst_bl, ev_lst_int, ev_lst_str, ev_lst_tup, wipeE_nil, wipeE_cons, cast_0, cast_1, cast_2, cast_3, cast_4, cast_5, cast_6, cast_7, cast_8, cast_9, cast_10, cast_11, cast_12, keysOf_nil, keysOf_cons, mergeS_nil, mergeS_cons, inR_s, sz_lt, sz_le, leq_nn, leq_nc, leq_cn, leq_cc, key_ss, key_ii, key_is, key_si, findK_nil, findK_cons, mapS_nil, mapS_cons, putS_nil, putS_cons, Option.bind_some, Option.map_some, Option.bind_none, Option.map_none, List.set_cons_zero, List.set_cons_succ, List.set_nil, List.getElem?_cons_zero, List.getElem?_cons_succ, List.length_cons, List.length_nil, List.nil_append, List.cons_append, List.map_cons, List.map_nil, if_true, if_false, Bool.false_eq_true, reduceIte, List.all_cons, List.all_nil, Bool.and_true, Bool.true_and, Bool.and_false, Bool.false_and, Bool.not_true, Bool.not_false, Bool.or_false, Bool.or_true, Bool.false_or, Bool.true_or, and_self, and_true, true_and, Int.toNat_natCast, decide_true, decide_false, List.take_zero, List.take_nil, List.take_succ_cons, List.drop_succ_cons, List.drop_zero, List.drop_nil, List.set_nil, List.replicate_succ, List.replicate_zero, List.foldl_cons, List.foldl_nil, Nat.reduceSub, Nat.reduceAdd, Nat.reduceLT, Nat.reduceLeDiff, Nat.reduceEqDiff, Nat.reduceMul, Int.reduceAdd, Int.reduceSub, Int.reduceMul, Int.reduceLT, Int.reduceLE, Int.reduceNeg, Int.reducePow, Int.reduceToNat, or_true, true_or, or_false, false_or, false_and, and_false, Nat.reducePow, not_true_eq_false, not_false_eq_true, Nat.add_zero, Nat.zero_add, Nat.sub_self, Nat.sub_zero, reduceCtorEq, Option.map_map, Int.reduceEq, Int.reduceNe, Int.reduceMod, Int.reduceDiv, List.append_nil, hl]
  refine (c_next h [] ss.length (by omega)).mono ?_
  rintro p ⟨n, w', rfl, h1, h2, h3⟩
  obtain ⟨i, rfl⟩ := Int.eq_ofNat_of_zero_le h1
  have hi' : i < ss.length := by omega
  have hw := wM_mo h3
  simp -implicitDefEqProofs only [run_bind, run_some, run_none, run_map, a_var, a_c, a_op, a_un, a_chain, tst_b, a_test, a_and, a_or, a_not, a_andV, a_orV, a_notV, a_if, a_nil, a_cons, a_tup, a_lst, a_new, a_fn, a_isi, a_call, asI_i, a_part, a_noPart, a_cut, a_app, a_ext, a_index, a_sub, a_ps0, a_ps1, a_disp, a_lc, a_tt, a_skip, andThen_nx, andThen_rt, andThen_bk, andThen_ct, a_seq, a_expr, a_ret, a_retN, a_brk, a_cnt, a_ifS, a_set, a_aug, a_asg, two_eq, a_par, a_put, a_daug, a_for, a_scoped, frzO_nx, frzO_bk, frzO_ct, frzO_rt, frzS_d, frzS_r, frzE_nil, frzE_none, frzE_some, a_gN, a_gsNil, a_gsCons, a_gTp, asStr_s, a_strI, asRng_i, a_rng1, asRng2_i, a_rng2, chkOf_d, a_seqI, a_cYes, items_tup, items_lst, litems_lst, ditems_tup, ditems_lst, toD_d, dataAll_nil, dataAll_cons, dataAll_mapd, asD_d, v_ii, v_addI, v_addS, v_addT, v_addL, v_neg, v_ltI, v_ltS, v_eq, v_ne, v_inS, v_notInS, v_ixS, v_ixR, v_ixT, v_ixL, v_cutS, v_cutT, v_cutL, v_lenS, v_lenR, v_lenT, v_lenL, v_abs, v_int1, v_listT, v_listL, v_tupleT, v_tupleL, v_isN, v_notN, isN_non, isN_r, isN_bl, isN_int, isN_str, isN_tup, isN_lst, ty_non, ty_bl, ty_int, ty_str, ty_tup, ty_lst, keyOf_i, keyOf_s, gAddI_i, gSubI_i, index_s, idxKind_s, isDat_d, isDat_r, svB_d, svB_r, moB_lst, moB_dk, natAbs10, asL_l, asK_k, itL_l, liL_l, tdL_l, tdL_k, dsL_k, dsL_l, tyL_l, tyL_k, lstAt_r, dkAt_r, items_r, litems_r, toD_r, dkS_r, dkS_tup, dkS_lst, dkS_dk, dkS_str, tyS_r, v_ixRef, v_lenRef, v_cutRef, ditems_r, v_listRef, v_tupleRef, v_eqRef, v_neRef, v_addRR, v_addRL, v_addLR, finO_nx, finO_rt, finO_bk, finO_ct, isTy_int_NoneType, isTy_int_bool, isTy_int_int, isTy_int_str, isTy_int_tuple, isTy_int_list, isTy_int_dict, isTy_bool_NoneType, isTy_bool_bool, isTy_bool_int, isTy_bool_str, isTy_bool_tuple, isTy_bool_list, isTy_bool_dict, isTy_str_NoneType, isTy_str_bool, isTy_str_int, isTy_str_str, isTy_str_tuple, isTy_str_list, isTy_str_dict, isTy_tuple_NoneType, isTy_tuple_bool, isTy_tuple_int, isTy_tuple_str, isTy_tuple_tuple, isTy_tuple_list, isTy_tuple_dict, isTy_list_NoneType, isTy_list_bool, isTy_list_int, isTy_list_str, isTy_list_tuple, isTy_list_list, isTy_list_dict, isTy_dict_NoneType, isTy_dict_bool, isTy_dict_int, isTy_dict_str, isTy_dict_tuple, isTy_dict_list, isTy_dict_dict, eo_non, eo_bl, eo_int, eo_str, eo_tup, eo_lst, ev_nn, ev_ii, ev_bb, ev_ss, ev_tt, ev_ll, ea_nn, ea_nc, ea_cn, ea_cc, ea_mapd, ev_non_bl, ev_non_int, ev_non_str, ev_non_tup, ev_non_lst, ev_bl_non, ev_bl_str, ev_bl_tup, ev_bl_lst, ev_int_non, ev_int_str, ev_int_tup, ev_int_lst, ev_str_non, ev_str_bl, ev_str_int, ev_str_tup, ev_str_lst, ev_tup_non, ev_tup_bl, ev_tup_int, ev_tup_str, ev_tup_lst, ev_lst_non, ev_lst_bl, ev_lst_int, ev_lst_str, ev_lst_tup, wipeE_nil, wipeE_cons, cast_0, cast_1, cast_2, cast_3, cast_4, cast_5, cast_6, cast_7, cast_8, cast_9, cast_10, cast_11, cast_12, keysOf_nil, keysOf_cons, mergeS_nil, mergeS_cons, inR_s, sz_lt, sz_le, leq_nn, leq_nc, leq_cn, leq_cc, key_ss, key_ii, key_is, key_si, findK_nil, findK_cons, mapS_nil, mapS_cons, putS_nil, putS_cons, Option.bind_some, Option.map_some, Option.bind_none, Option.map_none, List.set_cons_zero, List.set_cons_succ, List.set_nil, List.getElem?_cons_zero, List.getElem?_cons_succ, List.length_cons, List.length_nil, List.nil_append, List.cons_append, List.map_cons, List.map_nil, if_true, if_false, Bool.false_eq_true, reduceIte, List.all_cons, List.all_nil, Bool.and_true, Bool.true_and, Bool.and_false, Bool.false_and, Bool.not_true, Bool.not_false, Bool.or_false, Bool.or_true, Bool.false_or, Bool.true_or, and_self, and_true, true_and, Int.toNat_natCast, decide_true, decide_false, List.take_zero, List.take_nil, List.take_succ_cons, List.drop_succ_cons, List.drop_zero, List.drop_nil, List.set_nil, List.replicate_succ, List.replicate_zero, List.foldl_cons, List.foldl_nil, Nat.reduceSub, Nat.reduceAdd, Nat.reduceLT, Nat.reduceLeDiff, Nat.reduceEqDiff, Nat.reduceMul, Int.reduceAdd, Int.reduceSub, Int.reduceMul, Int.reduceLT, Int.reduceLE, Int.reduceNeg, Int.reducePow, Int.reduceToNat, or_true, true_or, or_false, false_or, false_and, and_false, Nat.reducePow, not_true_eq_false, not_false_eq_true, Nat.add_zero, Nat.zero_add, Nat.sub_self, Nat.sub_zero, reduceCtorEq, Option.map_map, Int.reduceEq, Int.reduceNe, Int.reduceMod, Int.reduceDiv, List.append_nil, hi, atI_lt hi', hw]
  exact ⟨_, List.getElem_mem hi', _, rfl, h3⟩
theorem c_pick {w : MO} (h : wM w) (r : Store) {x : D} {ss : List D} (hl : ∀ st, dLen st [.d x] = some (.d (.int (ss.length : Nat)))) (hi : ∀ st i, dIx st (.d x) (.d (.int i)) = (atI ss i).map .d) (hn : ss ≠ []) :
    Run (callM F__law_pick [.r 0, .d x] (w :: r)) fun p => ∃ d ∈ ss, ∃ w', p = (.d d, w' :: r) ∧ wM w' := by
  rw [callM_one (kOf_r0 _ rfl) (wM_mo h), run_bind]
  refine (pick_ok h hl hi hn).mono ?_
  rintro p ⟨n, h1, w', rfl, h3⟩
  exact run_some.mpr ⟨n, h1, w', rfl, h3⟩
theorem c_pickL {w : MO} (h : wM w) (r : Store) {ss : List D} (hn : ss ≠ []) : Run (callM F__law_pick [.r 0, .d (.lst ss)] (w :: r)) fun p => ∃ d ∈ ss, ∃ w', p = (.d d, w' :: r) ∧ wM w' :=
  c_pick h r (fun st => v_lenL st ss) (fun st i => v_ixL st ss i) hn
theorem c_pickT {w : MO} (h : wM w) (r : Store) {ss : List D} (hn : ss ≠ []) : Run (callM F__law_pick [.r 0, .d (.tup ss)] (w :: r)) fun p => ∃ d ∈ ss, ∃ w', p = (.d d, w' :: r) ∧ wM w' :=
  c_pick h r (fun st => v_lenT st ss) (fun st i => v_ixT st ss i) hn
theorem c_pickS {w : MO} (h : wM w) (r : Store) {s : List Nat} (hn : s ≠ []) : Run (callM F__law_pick [.r 0, .d (.str s)] (w :: r)) fun p => ∃ c ∈ s, ∃ w', p = (.d (.str [c]), w' :: r) ∧ wM w' := by
  refine (c_pick h r (x := .str s) (ss := s.map fun c => .str [c]) (fun st => ?_) (fun st i => ?_) (by simpa using hn)).mono ?_
  · rw [v_lenS, List.length_map]
  · rw [v_ixS, atI_map, Option.map_map]
    rfl
  · rintro p ⟨d, hd, w', rfl, h3⟩
    obtain ⟨c, hc, rfl⟩ := List.mem_map.mp hd
    exact ⟨c, hc, w', rfl, h3⟩
/-! ### whether it is this one -/
def plain : Nat → D → Bool
  | _, .non => true
  | _, .bl _ => true
  | _, .int _ => true
  | _, .str _ => true
  | n + 1, .tup ds => decide (ds.length ≤ 100000) && ds.all (plain n)
  | _, _ => false
mutual
theorem eqv_refl : ∀ (d : D) (n : Nat), eqOk n d = true → D.eqv d d = true
  | .non, _, _ => ev_nn
  | .bl a, _, _ => by rw [ev_bb]; exact beq_self_eq_true a
  | .int a, _, _ => by rw [ev_ii]; exact decide_eq_true rfl
  | .str a, _, _ => by rw [ev_ss]; exact decide_eq_true rfl
  | .tup a, n, h => by
    cases n with
    | zero => unfold eqOk at h; cases h
    | succ n => rw [ev_tt]; rw [eo_tup] at h; exact eqvAll_refl a n h
  | .lst a, n, h => by
    cases n with
    | zero => unfold eqOk at h; cases h
    | succ n => rw [ev_ll]; rw [eo_lst] at h; exact eqvAll_refl a n h
  | .dk _, n, h => by unfold eqOk at h; cases h
  | .scr _, n, h => by unfold eqOk at h; cases h
theorem eqvAll_refl : ∀ (ds : List D) (n : Nat), ds.all (eqOk n) = true → D.eqvAll ds ds = true
  | [], _, _ => ea_nn
  | d :: r, n, h => by
    rw [List.all_cons, Bool.and_eq_true] at h
    rw [ea_cc, eqv_refl d n h.1, eqvAll_refl r n h.2]
    rfl
end
theorem eqOk_up : ∀ (n : Nat) (d : D), eqOk n d = true → eqOk (n + 1) d = true
  | n, .non, h => eo_non _
  | n, .bl _, h => eo_bl _ _
  | n, .int _, h => eo_int _ _
  | n, .str _, h => eo_str _ _
  | 0, .tup _, h => by unfold eqOk at h; cases h
  | 0, .lst _, h => by unfold eqOk at h; cases h
  | n + 1, .tup a, h => by
    rw [eo_tup, List.all_eq_true] at h
    rw [eo_tup, List.all_eq_true]
    exact fun x hx => eqOk_up n x (h x hx)
  | n + 1, .lst a, h => by
    rw [eo_lst, List.all_eq_true] at h
    rw [eo_lst, List.all_eq_true]
    exact fun x hx => eqOk_up n x (h x hx)
  | n, .dk _, h => by unfold eqOk at h; cases h
  | n, .scr _, h => by unfold eqOk at h; cases h
theorem eqOk_le {n m : Nat} {d : D} (h : eqOk n d = true) (l : n ≤ m) : eqOk m d = true := by
  induction l with
  | refl => exact h
  | step _ ih => exact eqOk_up _ _ ih
theorem alike_ok : ∀ (n : Nat) (d : D), plain n d = true → F__law_alike (n + 1) [.d d, .d d] [] = some (.d (.bl true), [])
  | n, .non, h => by
    unfold F__law_alike g__law_alike
    rw [a_runF]
    simp -implicitDefEqProofs only [run_bind, run_some, run_none, run_map, a_var, a_c, a_op, a_un, a_chain, tst_b, a_test, a_and, a_or, a_not, a_andV, a_orV, a_notV, a_if, a_nil, a_cons, a_tup, a_lst, a_new, a_fn, a_isi, a_call, asI_i, a_part, a_noPart, a_cut, a_app, a_ext, a_index, a_sub, a_ps0, a_ps1, a_disp, a_lc, a_tt, a_skip, andThen_nx, andThen_rt, andThen_bk, andThen_ct, a_seq, a_expr, a_ret, a_retN, a_brk, a_cnt, a_ifS, a_set, a_aug, a_asg, two_eq, a_par, a_put, a_daug, a_for, a_scoped, frzO_nx, frzO_bk, frzO_ct, frzO_rt, frzS_d, frzS_r, frzE_nil, frzE_none, frzE_some, a_gN, a_gsNil, a_gsCons, a_gTp, asStr_s, a_strI, asRng_i, a_rng1, asRng2_i, a_rng2, chkOf_d, a_seqI, a_cYes, items_tup, items_lst, litems_lst, ditems_tup, ditems_lst, toD_d, dataAll_nil, dataAll_cons, dataAll_mapd, asD_d, v_ii, v_addI, v_addS, v_addT, v_addL, v_neg, v_ltI, v_ltS, v_eq, v_ne, v_inS, v_notInS, v_ixS, v_ixR, v_ixT, v_ixL, v_cutS, v_cutT, v_cutL, v_lenS, v_lenR, v_lenT, v_lenL, v_abs, v_int1, v_listT, v_listL, v_tupleT, v_tupleL, v_isN, v_notN, isN_non, isN_r, isN_bl, isN_int, isN_str, isN_tup, isN_lst, ty_non, ty_bl, ty_int, ty_str, ty_tup, ty_lst, keyOf_i, keyOf_s, gAddI_i, gSubI_i, index_s, idxKind_s, isDat_d, isDat_r, svB_d, svB_r, moB_lst, moB_dk, natAbs10, asL_l, asK_k, itL_l, liL_l, tdL_l, tdL_k, dsL_k, dsL_l, tyL_l, tyL_k, lstAt_r, dkAt_r, items_r, litems_r, toD_r, dkS_r, dkS_tup, dkS_lst, dkS_dk, dkS_str, tyS_r, v_ixRef, v_lenRef, v_cutRef, ditems_r, v_listRef, v_tupleRef, v_eqRef, v_neRef, v_addRR, v_addRL, v_addLR, finO_nx, finO_rt, finO_bk, finO_ct, isTy_int_NoneType, isTy_int_bool, isTy_int_int, isTy_int_str, isTy_int_tuple, isTy_int_list, isTy_int_dict, isTy_bool_NoneType, isTy_bool_bool, isTy_bool_int, isTy_bool_str, isTy_bool_tuple, isTy_bool_list, isTy_bool_dict, isTy_str_NoneType, isTy_str_bool, isTy_str_int, isTy_str_str, isTy_str_tuple, isTy_str_list, isTy_str_dict, isTy_tuple_NoneType, isTy_tuple_bool, isTy_tuple_int, isTy_tuple_str, isTy_tuple_tuple, isTy_tuple_list, isTy_tuple_dict, isTy_list_NoneType, isTy_list_bool, isTy_list_int, isTy_list_str, isTy_list_tuple, isTy_list_list, isTy_list_dict, isTy_dict_NoneType, isTy_dict_bool, isTy_dict_int, isTy_dict_str, isTy_dict_tuple, isTy_dict_list, isTy_dict_dict, eo_non, eo_bl, eo_int, eo_str, eo_tup, eo_lst, ev_nn, ev_ii, ev_bb, ev_ss, ev_tt, ev_ll, ea_nn, ea_nc, ea_cn, ea_cc, ea_mapd, ev_non_bl, ev_non_int, ev_non_str, ev_non_tup, ev_non_lst, ev_bl_non, ev_bl_str, ev_bl_tup, ev_bl_lst, ev_int_non, ev_int_str, ev_int_tup, ev_int_lst, ev_str_non, ev_str_bl, ev_str_int, ev_str_tup, ev_str_lst, ev_tup_non, ev_tup_bl, ev_tup_int, ev_tup_str, ev_tup_lst, ev_lst_non, ev_lst_bl, ev_lst_int, ev_lst_str, ev_lst_tup, wipeE_nil, wipeE_cons, cast_0, cast_1, cast_2, cast_3, cast_4, cast_5, cast_6, cast_7, cast_8, cast_9, cast_10, cast_11, cast_12, keysOf_nil, keysOf_cons, mergeS_nil, mergeS_cons, inR_s, sz_lt, sz_le, leq_nn, leq_nc, leq_cn, leq_cc, key_ss, key_ii, key_is, key_si, findK_nil, findK_cons, mapS_nil, mapS_cons, putS_nil, putS_cons, Option.bind_some, Option.map_some, Option.bind_none, Option.map_none, List.set_cons_zero, List.set_cons_succ, List.set_nil, List.getElem?_cons_zero, List.getElem?_cons_succ, List.length_cons, List.length_nil, List.nil_append, List.cons_append, List.map_cons, List.map_nil, if_true, if_false, Bool.false_eq_true, reduceIte, List.all_cons, List.all_nil, Bool.and_true, Bool.true_and, Bool.and_false, Bool.false_and, Bool.not_true, Bool.not_false, Bool.or_false, Bool.or_true, Bool.false_or, Bool.true_or, and_self, and_true, true_and, Int.toNat_natCast, decide_true, decide_false, List.take_zero, List.take_nil, List.take_succ_cons, List.drop_succ_cons, List.drop_zero, List.drop_nil, List.set_nil, List.replicate_succ, List.replicate_zero, List.foldl_cons, List.foldl_nil, Nat.reduceSub, Nat.reduceAdd, Nat.reduceLT, Nat.reduceLeDiff, Nat.reduceEqDiff, Nat.reduceMul, Int.reduceAdd, Int.reduceSub, Int.reduceMul, Int.reduceLT, Int.reduceLE, Int.reduceNeg, Int.reducePow, Int.reduceToNat, or_true, true_or, or_false, false_or, false_and, and_false, Nat.reducePow, not_true_eq_false, not_false_eq_true, Nat.add_zero, Nat.zero_add, Nat.sub_self, Nat.sub_zero, reduceCtorEq, Option.map_map, Int.reduceEq, Int.reduceNe, Int.reduceMod, Int.reduceDiv, List.append_nil]
  | n, .bl b, h => by
    unfold F__law_alike g__law_alike
    rw [a_runF]
    simp -implicitDefEqProofs only [run_bind, run_some, run_none, run_map, a_var, a_c, a_op, a_un, a_chain, tst_b, a_test, a_and, a_or, a_not, a_andV, a_orV, a_notV, a_if, a_nil, a_cons, a_tup, a_lst, a_new, a_fn, a_isi, a_call, asI_i, a_part, a_noPart, a_cut, a_app, a_ext, a_index, a_sub, a_ps0, a_ps1, a_disp, a_lc, a_tt, a_skip, andThen_nx, andThen_rt, andThen_bk, andThen_ct, a_seq, a_expr, a_ret, a_retN, a_brk, a_cnt, a_ifS, a_set, a_aug, a_asg, two_eq, a_par, a_put, a_daug, a_for, a_scoped, frzO_nx, frzO_bk, frzO_ct, frzO_rt, frzS_d, frzS_r, frzE_nil, frzE_none, frzE_some, a_gN, a_gsNil, a_gsCons, a_gTp, asStr_s, a_strI, asRng_i, a_rng1, asRng2_i, a_rng2, chkOf_d, a_seqI, a_cYes, items_tup, items_lst, litems_lst, ditems_tup, ditems_lst, toD_d, dataAll_nil, dataAll_cons, dataAll_mapd, asD_d, v_ii, v_addI, v_addS, v_addT, v_addL, v_neg, v_ltI, v_ltS, v_eq, v_ne, v_inS, v_notInS, v_ixS, v_ixR, v_ixT, v_ixL, v_cutS, v_cutT, v_cutL, v_lenS, v_lenR, v_lenT, v_lenL, v_abs, v_int1, v_listT, v_listL, v_tupleT, v_tupleL, v_isN, v_notN, isN_non, isN_r, isN_bl, isN_int, isN_str, isN_tup, isN_lst, ty_non, ty_bl, ty_int, ty_str, ty_tup, ty_lst, keyOf_i, keyOf_s, gAddI_i, gSubI_i, index_s, idxKind_s, isDat_d, isDat_r, svB_d, svB_r, moB_lst, moB_dk, natAbs10, asL_l, asK_k, itL_l, liL_l, tdL_l, tdL_k, dsL_k, dsL_l, tyL_l, tyL_k, lstAt_r, dkAt_r, items_r, litems_r, toD_r, dkS_r, dkS_tup, dkS_lst, dkS_dk, dkS_str, tyS_r, v_ixRef, v_lenRef, v_cutRef, ditems_r, v_listRef, v_tupleRef, v_eqRef, v_neRef, v_addRR, v_addRL, v_addLR, finO_nx, finO_rt, finO_bk, finO_ct, isTy_int_NoneType, isTy_int_bool, isTy_int_int, isTy_int_str, isTy_int_tuple, isTy_int_list, isTy_int_dict, isTy_bool_NoneType, isTy_bool_bool, isTy_bool_int, isTy_bool_str, isTy_bool_tuple, isTy_bool_list, isTy_bool_dict, isTy_str_NoneType, isTy_str_bool, isTy_str_int, isTy_str_str, isTy_str_tuple, isTy_str_list, isTy_str_dict, isTy_tuple_NoneType, isTy_tuple_bool, isTy_tuple_int, isTy_tuple_str, isTy_tuple_tuple, isTy_tuple_list, isTy_tuple_dict, isTy_list_NoneType, isTy_list_bool, isTy_list_int, isTy_list_str, isTy_list_tuple, isTy_list_list, isTy_list_dict, isTy_dict_NoneType, isTy_dict_bool, isTy_dict_int, isTy_dict_str, isTy_dict_tuple, isTy_dict_list, isTy_dict_dict, eo_non, eo_bl, eo_int, eo_str, eo_tup, eo_lst, ev_nn, ev_ii, ev_bb, ev_ss, ev_tt, ev_ll, ea_nn, ea_nc, ea_cn, ea_cc, ea_mapd, ev_non_bl, ev_non_int, ev_non_str, ev_non_tup, ev_non_lst, ev_bl_non, ev_bl_str, ev_bl_tup, ev_bl_lst, ev_int_non, ev_int_str, ev_int_tup, ev_int_lst, ev_str_non, ev_str_bl, ev_str_int, ev_str_tup, ev_str_lst, ev_tup_non, ev_tup_bl, ev_tup_int, ev_tup_str, ev_tup_lst, ev_lst_non, ev_lst_bl, ev_lst_int, ev_lst_str, ev_lst_tup, wipeE_nil, wipeE_cons, cast_0, cast_1, cast_2, cast_3, cast_4, cast_5, cast_6, cast_7, cast_8, cast_9, cast_10, cast_11, cast_12, keysOf_nil, keysOf_cons, mergeS_nil, mergeS_cons, inR_s, sz_lt, sz_le, leq_nn, leq_nc, leq_cn, leq_cc, key_ss, key_ii, key_is, key_si, findK_nil, findK_cons, mapS_nil, mapS_cons, putS_nil, putS_cons, Option.bind_some, Option.map_some, Option.bind_none, Option.map_none, List.set_cons_zero, List.set_cons_succ, List.set_nil, List.getElem?_cons_zero, List.getElem?_cons_succ, List.length_cons, List.length_nil, List.nil_append, List.cons_append, List.map_cons, List.map_nil, if_true, if_false, Bool.false_eq_true, reduceIte, List.all_cons, List.all_nil, Bool.and_true, Bool.true_and, Bool.and_false, Bool.false_and, Bool.not_true, Bool.not_false, Bool.or_false, Bool.or_true, Bool.false_or, Bool.true_or, and_self, and_true, true_and, Int.toNat_natCast, decide_true, decide_false, List.take_zero, List.take_nil, List.take_succ_cons, List.drop_succ_cons, List.drop_zero, List.drop_nil, List.set_nil, List.replicate_succ, List.replicate_zero, List.foldl_cons, List.foldl_nil, Nat.reduceSub, Nat.reduceAdd, Nat.reduceLT, Nat.reduceLeDiff, Nat.reduceEqDiff, Nat.reduceMul, Int.reduceAdd, Int.reduceSub, Int.reduceMul, Int.reduceLT, Int.reduceLE, Int.reduceNeg, Int.reducePow, Int.reduceToNat, or_true, true_or, or_false, false_or, false_and, and_false, Nat.reducePow, not_true_eq_false, not_false_eq_true, Nat.add_zero, Nat.zero_add, Nat.sub_self, Nat.sub_zero, reduceCtorEq, Option.map_map, Int.reduceEq, Int.reduceNe, Int.reduceMod, Int.reduceDiv, List.append_nil, beq_self_eq_true]
  | n, .int b, h => by
    unfold F__law_alike g__law_alike
    rw [a_runF]
    simp -implicitDefEqProofs only [run_bind, run_some, run_none, run_map, a_var, a_c, a_op, a_un, a_chain, tst_b, a_test, a_and, a_or, a_not, a_andV, a_orV, a_notV, a_if, a_nil, a_cons, a_tup, a_lst, a_new, a_fn, a_isi, a_call, asI_i, a_part, a_noPart, a_cut, a_app, a_ext, a_index, a_sub, a_ps0, a_ps1, a_disp, a_lc, a_tt, a_skip, andThen_nx, andThen_rt, andThen_bk, andThen_ct, a_seq, a_expr, a_ret, a_retN, a_brk, a_cnt, a_ifS, a_set, a_aug, a_asg, two_eq, a_par, a_put, a_daug, a_for, a_scoped, frzO_nx, frzO_bk, frzO_ct, frzO_rt, frzS_d, frzS_r, frzE_nil, frzE_none, frzE_some, a_gN, a_gsNil, a_gsCons, a_gTp, asStr_s, a_strI, asRng_i, a_rng1, asRng2_i, a_rng2, chkOf_d, a_seqI, a_cYes, items_tup, items_lst, litems_lst, ditems_tup, ditems_lst, toD_d, dataAll_nil, dataAll_cons, dataAll_mapd, asD_d, v_ii, v_addI, v_addS, v_addT, v_addL, v_neg, v_ltI, v_ltS, v_eq, v_ne, v_inS, v_notInS, v_ixS, v_ixR, v_ixT, v_ixL, v_cutS, v_cutT, v_cutL, v_lenS, v_lenR, v_lenT, v_lenL, v_abs, v_int1, v_listT, v_listL, v_tupleT, v_tupleL, v_isN, v_notN, isN_non, isN_r, isN_bl, isN_int, isN_str, isN_tup, isN_lst, ty_non, ty_bl, ty_int, ty_str, ty_tup, ty_lst, keyOf_i, keyOf_s, gAddI_i, gSubI_i, index_s, idxKind_s, isDat_d, isDat_r, svB_d, svB_r, moB_lst, moB_dk, natAbs10, asL_l, asK_k, itL_l, liL_l, tdL_l, tdL_k, dsL_k, dsL_l, tyL_l, tyL_k, lstAt_r, dkAt_r, items_r, litems_r, toD_r, dkS_r, dkS_tup, dkS_lst, dkS_dk, dkS_str, tyS_r, v_ixRef, v_lenRef, v_cutRef, ditems_r, v_listRef, v_tupleRef, v_eqRef, v_neRef, v_addRR, v_addRL, v_addLR, finO_nx, finO_rt, finO_bk, finO_ct, isTy_int_NoneType, isTy_int_bool, isTy_int_int, isTy_int_str, isTy_int_tuple, isTy_int_list, isTy_int_dict, isTy_bool_NoneType, isTy_bool_bool, isTy_bool_int, isTy_bool_str, isTy_bool_tuple, isTy_bool_list, isTy_bool_dict, isTy_str_NoneType, isTy_str_bool, isTy_str_int, isTy_str_str, isTy_str_tuple, isTy_str_list, isTy_str_dict, isTy_tuple_NoneType, isTy_tuple_bool, isTy_tuple_int, isTy_tuple_str, isTy_tuple_tuple, isTy_tuple_list, isTy_tuple_dict, isTy_list_NoneType, isTy_list_bool, isTy_list_int, isTy_list_str, isTy_list_tuple, isTy_list_list, isTy_list_dict, isTy_dict_NoneType, isTy_dict_bool, isTy_dict_int, isTy_dict_str, isTy_dict_tuple, isTy_dict_list, isTy_dict_dict, eo_non, eo_bl, eo_int, eo_str, eo_tup, eo_lst, ev_nn, ev_ii, ev_bb, ev_ss, ev_tt, ev_ll, ea_nn, ea_nc, ea_cn, ea_cc, ea_mapd, ev_non_bl, ev_non_int, ev_non_str, ev_non_tup, ev_non_lst, ev_bl_non, ev_bl_str, ev_bl_tup, ev_bl_lst, ev_int_non, ev_int_str, ev_int_tup, ev_int_lst, ev_str_non, ev_str_bl, ev_str_int, ev_str_tup, ev_str_lst, ev_tup_non, ev_tup_bl, ev_tup_int, ev_tup_str, ev_tup_lst, ev_lst_non, ev_lst_bl, ev_lst_int, ev_lst_str, ev_lst_tup, wipeE_nil, wipeE_cons, cast_0, cast_1, cast_2, cast_3, cast_4, cast_5, cast_6, cast_7, cast_8, cast_9, cast_10, cast_11, cast_12, keysOf_nil, keysOf_cons, mergeS_nil, mergeS_cons, inR_s, sz_lt, sz_le, leq_nn, leq_nc, leq_cn, leq_cc, key_ss, key_ii, key_is, key_si, findK_nil, findK_cons, mapS_nil, mapS_cons, putS_nil, putS_cons, Option.bind_some, Option.map_some, Option.bind_none, Option.map_none, List.set_cons_zero, List.set_cons_succ, List.set_nil, List.getElem?_cons_zero, List.getElem?_cons_succ, List.length_cons, List.length_nil, List.nil_append, List.cons_append, List.map_cons, List.map_nil, if_true, if_false, Bool.false_eq_true, reduceIte, List.all_cons, List.all_nil, Bool.and_true, Bool.true_and, Bool.and_false, Bool.false_and, Bool.not_true, Bool.not_false, Bool.or_false, Bool.or_true, Bool.false_or, Bool.true_or, and_self, and_true, true_and, Int.toNat_natCast, decide_true, decide_false, List.take_zero, List.take_nil, List.take_succ_cons, List.drop_succ_cons, List.drop_zero, List.drop_nil, List.set_nil, List.replicate_succ, List.replicate_zero, List.foldl_cons, List.foldl_nil, Nat.reduceSub, Nat.reduceAdd, Nat.reduceLT, Nat.reduceLeDiff, Nat.reduceEqDiff, Nat.reduceMul, Int.reduceAdd, Int.reduceSub, Int.reduceMul, Int.reduceLT, Int.reduceLE, Int.reduceNeg, Int.reducePow, Int.reduceToNat, or_true, true_or, or_false, false_or, false_and, and_false, Nat.reducePow, not_true_eq_false, not_false_eq_true, Nat.add_zero, Nat.zero_add, Nat.sub_self, Nat.sub_zero, reduceCtorEq, Option.map_map, Int.reduceEq, Int.reduceNe, Int.reduceMod, Int.reduceDiv, List.append_nil]
  | n, .str b, h => by
    unfold F__law_alike g__law_alike
    rw [a_runF]
    simp -implicitDefEqProofs only [run_bind, run_some, run_none, run_map, a_var, a_c, a_op, a_un, a_chain, tst_b, a_test, a_and, a_or, a_not, a_andV, a_orV, a_notV, a_if, a_nil, a_cons, a_tup, a_lst, a_new, a_fn, a_isi, a_call, asI_i, a_part, a_noPart, a_cut, a_app, a_ext, a_index, a_sub, a_ps0, a_ps1, a_disp, a_lc, a_tt, a_skip, andThen_nx, andThen_rt, andThen_bk, andThen_ct, a_seq, a_expr, a_ret, a_retN, a_brk, a_cnt, a_ifS, a_set, a_aug, a_asg, two_eq, a_par, a_put, a_daug, a_for, a_scoped, frzO_nx, frzO_bk, frzO_ct, frzO_rt, frzS_d, frzS_r, frzE_nil, frzE_none, frzE_some, a_gN, a_gsNil, a_gsCons, a_gTp, asStr_s, a_strI, asRng_i, a_rng1, asRng2_i, a_rng2, chkOf_d, a_seqI, a_cYes, items_tup, items_lst, litems_lst, ditems_tup, ditems_lst, toD_d, dataAll_nil, dataAll_cons, dataAll_mapd, asD_d, v_ii, v_addI, v_addS, v_addT, v_addL, v_neg, v_ltI, v_ltS, v_eq, v_ne, v_inS, v_notInS, v_ixS, v_ixR, v_ixT, v_ixL, v_cutS, v_cutT, v_cutL, v_lenS, v_lenR, v_lenT, v_lenL, v_abs, v_int1, v_listT, v_listL, v_tupleT, v_tupleL, v_isN, v_notN, isN_non, isN_r, isN_bl, isN_int, isN_str, isN_tup, isN_lst, ty_non, ty_bl, ty_int, ty_str, ty_tup, ty_lst, keyOf_i, keyOf_s, gAddI_i, gSubI_i, index_s, idxKind_s, isDat_d, isDat_r, svB_d, svB_r, moB_lst, moB_dk, natAbs10, asL_l, asK_k, itL_l, liL_l, tdL_l, tdL_k, dsL_k, dsL_l, tyL_l, tyL_k, lstAt_r, dkAt_r, items_r, litems_r, toD_r, dkS_r, dkS_tup, dkS_lst, dkS_dk, dkS_str, tyS_r, v_ixRef, v_lenRef, v_cutRef, ditems_r, v_listRef, v_tupleRef, v_eqRef, v_neRef, v_addRR, v_addRL, v_addLR, finO_nx, finO_rt, finO_bk, finO_ct, isTy_int_NoneType, isTy_int_bool, isTy_int_int, isTy_int_str, isTy_int_tuple, isTy_int_list, isTy_int_dict, isTy_bool_NoneType, isTy_bool_bool, isTy_bool_int, isTy_bool_str, isTy_bool_tuple, isTy_bool_list, isTy_bool_dict, isTy_str_NoneType, isTy_str_bool, isTy_str_int, isTy_str_str, isTy_str_tuple, isTy_str_list, isTy_str_dict, isTy_tuple_NoneType, isTy_tuple_bool, isTy_tuple_int, isTy_tuple_str, isTy_tuple_tuple, isTy_tuple_list, isTy_tuple_dict, isTy_list_NoneType, isTy_list_bool, isTy_list_int, isTy_list_str, isTy_list_tuple, isTy_list_list, isTy_list_dict, isTy_dict_NoneType, isTy_dict_bool, isTy_dict_int, isTy_dict_str, isTy_dict_tuple, isTy_dict_list, isTy_dict_dict, eo_non, eo_bl, eo_int, eo_str, eo_tup, eo_lst, ev_nn, ev_ii, ev_bb, ev_ss, ev_tt, ev_ll, ea_nn, ea_nc, ea_cn, ea_cc, ea_mapd, ev_non_bl, ev_non_int, ev_non_str, ev_non_tup, ev_non_lst, ev_bl_non, ev_bl_str, ev_bl_tup, ev_bl_lst, ev_int_non, ev_int_str, ev_int_tup, ev_int_lst, ev_str_non, ev_str_bl, ev_str_int, ev_str_tup, ev_str_lst, ev_tup_non, ev_tup_bl, ev_tup_int, ev_tup_str, ev_tup_lst, ev_lst_non, ev_lst_bl, ev_lst_int, ev_lst_str, ev_lst_tup, wipeE_nil, wipeE_cons, cast_0, cast_1, cast_2, cast_3, cast_4, cast_5, cast_6, cast_7, cast_8, cast_9, cast_10, cast_11, cast_12, keysOf_nil, keysOf_cons, mergeS_nil, mergeS_cons, inR_s, sz_lt, sz_le, leq_nn, leq_nc, leq_cn, leq_cc, key_ss, key_ii, key_is, key_si, findK_nil, findK_cons, mapS_nil, mapS_cons, putS_nil, putS_cons, Option.bind_some, Option.map_some, Option.bind_none, Option.map_none, List.set_cons_zero, List.set_cons_succ, List.set_nil, List.getElem?_cons_zero, List.getElem?_cons_succ, List.length_cons, List.length_nil, List.nil_append, List.cons_append, List.map_cons, List.map_nil, if_true, if_false, Bool.false_eq_true, reduceIte, List.all_cons, List.all_nil, Bool.and_true, Bool.true_and, Bool.and_false, Bool.false_and, Bool.not_true, Bool.not_false, Bool.or_false, Bool.or_true, Bool.false_or, Bool.true_or, and_self, and_true, true_and, Int.toNat_natCast, decide_true, decide_false, List.take_zero, List.take_nil, List.take_succ_cons, List.drop_succ_cons, List.drop_zero, List.drop_nil, List.set_nil, List.replicate_succ, List.replicate_zero, List.foldl_cons, List.foldl_nil, Nat.reduceSub, Nat.reduceAdd, Nat.reduceLT, Nat.reduceLeDiff, Nat.reduceEqDiff, Nat.reduceMul, Int.reduceAdd, Int.reduceSub, Int.reduceMul, Int.reduceLT, Int.reduceLE, Int.reduceNeg, Int.reducePow, Int.reduceToNat, or_true, true_or, or_false, false_or, false_and, and_false, Nat.reducePow, not_true_eq_false, not_false_eq_true, Nat.add_zero, Nat.zero_add, Nat.sub_self, Nat.sub_zero, reduceCtorEq, Option.map_map, Int.reduceEq, Int.reduceNe, Int.reduceMod, Int.reduceDiv, List.append_nil]
  | 0, .tup ds, h => by unfold plain at h; cases h
  | n + 1, .tup ds, h => by
    unfold plain at h
    rw [Bool.and_eq_true, List.all_eq_true] at h
    obtain ⟨h1, h2⟩ := h
    have h1 := of_decide_eq_true h1
    have hr : inR (ds.length : Int) = true := by
      unfold inR
      exact decide_eq_true (by omega)
    unfold F__law_alike g__law_alike
    rw [a_runF]
    simp -implicitDefEqProofs only [run_bind, run_some, run_none, run_map, a_var, a_c, a_op, a_un, a_chain, tst_b, a_test, a_and, a_or, a_not, a_andV, a_orV, a_notV, a_if, a_nil, a_cons, a_tup, a_lst, a_new, a_fn, a_isi, a_call, asI_i, a_part, a_noPart, a_cut, a_app, a_ext, a_index, a_sub, a_ps0, a_ps1, a_disp, a_lc, a_tt, a_skip, andThen_nx, andThen_rt, andThen_bk, andThen_ct, a_seq, a_expr, a_ret, a_retN, a_brk, a_cnt, a_ifS, a_set, a_aug, a_asg, two_eq, a_par, a_put, a_daug, a_for, a_scoped, frzO_nx, frzO_bk, frzO_ct, frzO_rt, frzS_d, frzS_r, frzE_nil, frzE_none, frzE_some, a_gN, a_gsNil, a_gsCons, a_gTp, asStr_s, a_strI, asRng_i, a_rng1, asRng2_i, a_rng2, chkOf_d, a_seqI, a_cYes, items_tup, items_lst, litems_lst, ditems_tup, ditems_lst, toD_d, dataAll_nil, dataAll_cons, dataAll_mapd, asD_d, v_ii, v_addI, v_addS, v_addT, v_addL, v_neg, v_ltI, v_ltS, v_eq, v_ne, v_inS, v_notInS, v_ixS, v_ixR, v_ixT, v_ixL, v_cutS, v_cutT, v_cutL, v_lenS, v_lenR, v_lenT, v_lenL, v_abs, v_int1, v_listT, v_listL, v_tupleT, v_tupleL, v_isN, v_notN, isN_non, isN_r, isN_bl, isN_int, isN_str, isN_tup, isN_lst, ty_non, ty_bl, ty_int, ty_str, ty_tup, ty_lst, keyOf_i, keyOf_s, gAddI_i, gSubI_i, index_s, idxKind_s, isDat_d, isDat_r, svB_d, svB_r, moB_lst, moB_dk, natAbs10, asL_l, asK_k, itL_l, liL_l, tdL_l, tdL_k, dsL_k, dsL_l, tyL_l, tyL_k, lstAt_r, dkAt_r, items_r, litems_r, toD_r, dkS_r, dkS_tup, dkS_lst, dkS_dk, dkS_str, tyS_r, v_ixRef, v_lenRef, v_cutRef, ditems_r, v_listRef, v_tupleRef, v_eqRef, v_neRef, v_addRR, v_addRL, v_addLR, finO_nx, finO_rt, finO_bk, finO_ct, isTy_int_NoneType, isTy_int_bool, isTy_int_int, isTy_int_str, isTy_int_tuple, isTy_int_list, isTy_int_dict, isTy_bool_NoneType, isTy_bool_bool, isTy_bool_int, isTy_bool_str, isTy_bool_tuple, isTy_bool_list, isTy_bool_dict, isTy_str_NoneType, isTy_str_bool, isTy_str_int, isTy_str_str, isTy_str_tuple, isTy_str_list, isTy_str_dict, isTy_tuple_NoneType, isTy_tuple_bool, isTy_tuple_int, isTy_tuple_str, isTy_tuple_tuple, isTy_tuple_list, isTy_tuple_dict, isTy_list_NoneType, isTy_list_bool, isTy_list_int, isTy_list_str, isTy_list_tuple, isTy_list_list, isTy_list_dict, isTy_dict_NoneType, isTy_dict_bool, isTy_dict_int, isTy_dict_str, isTy_dict_tuple, isTy_dict_list, isTy_dict_dict, eo_non, eo_bl, eo_int, eo_str, eo_tup, eo_lst, ev_nn, ev_ii, ev_bb, ev_ss, ev_tt, ev_ll, ea_nn, ea_nc, ea_cn, ea_cc, ea_mapd, ev_non_bl, ev_non_int, ev_non_str, ev_non_tup, ev_non_lst, ev_bl_non, ev_bl_str, ev_bl_tup, ev_bl_lst, ev_int_non, ev_int_str, ev_int_tup, ev_int_lst, ev_str_non, ev_str_bl, ev_str_int, ev_str_tup, ev_str_lst, ev_tup_non, ev_tup_bl, ev_tup_int, ev_tup_str, ev_tup_lst, ev_lst_non, ev_lst_bl, ev_lst_int, ev_lst_str, ev_lst_tup, wipeE_nil, wipeE_cons, cast_0, cast_1, cast_2, cast_3, cast_4, cast_5, cast_6, cast_7, cast_8, cast_9, cast_10, cast_11, cast_12, keysOf_nil, keysOf_cons, mergeS_nil, mergeS_cons, inR_s, sz_lt, sz_le, leq_nn, leq_nc, leq_cn, leq_cc, key_ss, key_ii, key_is, key_si, findK_nil, findK_cons, mapS_nil, mapS_cons, putS_nil, putS_cons, Option.bind_some, Option.map_some, Option.bind_none, Option.map_none, List.set_cons_zero, List.set_cons_succ, List.set_nil, List.getElem?_cons_zero, List.getElem?_cons_succ, List.length_cons, List.length_nil, List.nil_append, List.cons_append, List.map_cons, List.map_nil, if_true, if_false, Bool.false_eq_true, reduceIte, List.all_cons, List.all_nil, Bool.and_true, Bool.true_and, Bool.and_false, Bool.false_and, Bool.not_true, Bool.not_false, Bool.or_false, Bool.or_true, Bool.false_or, Bool.true_or, and_self, and_true, true_and, Int.toNat_natCast, decide_true, decide_false, List.take_zero, List.take_nil, List.take_succ_cons, List.drop_succ_cons, List.drop_zero, List.drop_nil, List.set_nil, List.replicate_succ, List.replicate_zero, List.foldl_cons, List.foldl_nil, Nat.reduceSub, Nat.reduceAdd, Nat.reduceLT, Nat.reduceLeDiff, Nat.reduceEqDiff, Nat.reduceMul, Int.reduceAdd, Int.reduceSub, Int.reduceMul, Int.reduceLT, Int.reduceLE, Int.reduceNeg, Int.reducePow, Int.reduceToNat, or_true, true_or, or_false, false_or, false_and, and_false, Nat.reducePow, not_true_eq_false, not_false_eq_true, Nat.add_zero, Nat.zero_add, Nat.sub_self, Nat.sub_zero, reduceCtorEq, Option.map_map, Int.reduceEq, Int.reduceNe, Int.reduceMod, Int.reduceDiv, List.append_nil, hr]
    rw [lcL_pure (fun _ => none) _ _ (by rw [rngL_len]; exact Nat.le_of_lt (Nat.lt_of_le_of_lt (by simpa using h1) line_big))]
    · have e0 : ∀ xs : List SV, xs.filterMap (fun _ => (none : Option D)) = [] := fun xs => by induction xs <;> simp
      simp -implicitDefEqProofs only [run_bind, run_some, run_none, run_map, a_var, a_c, a_op, a_un, a_chain, tst_b, a_test, a_and, a_or, a_not, a_andV, a_orV, a_notV, a_if, a_nil, a_cons, a_tup, a_lst, a_new, a_fn, a_isi, a_call, asI_i, a_part, a_noPart, a_cut, a_app, a_ext, a_index, a_sub, a_ps0, a_ps1, a_disp, a_lc, a_tt, a_skip, andThen_nx, andThen_rt, andThen_bk, andThen_ct, a_seq, a_expr, a_ret, a_retN, a_brk, a_cnt, a_ifS, a_set, a_aug, a_asg, two_eq, a_par, a_put, a_daug, a_for, a_scoped, frzO_nx, frzO_bk, frzO_ct, frzO_rt, frzS_d, frzS_r, frzE_nil, frzE_none, frzE_some, a_gN, a_gsNil, a_gsCons, a_gTp, asStr_s, a_strI, asRng_i, a_rng1, asRng2_i, a_rng2, chkOf_d, a_seqI, a_cYes, items_tup, items_lst, litems_lst, ditems_tup, ditems_lst, toD_d, dataAll_nil, dataAll_cons, dataAll_mapd, asD_d, v_ii, v_addI, v_addS, v_addT, v_addL, v_neg, v_ltI, v_ltS, v_eq, v_ne, v_inS, v_notInS, v_ixS, v_ixR, v_ixT, v_ixL, v_cutS, v_cutT, v_cutL, v_lenS, v_lenR, v_lenT, v_lenL, v_abs, v_int1, v_listT, v_listL, v_tupleT, v_tupleL, v_isN, v_notN, isN_non, isN_r, isN_bl, isN_int, isN_str, isN_tup, isN_lst, ty_non, ty_bl, ty_int, ty_str, ty_tup, ty_lst, keyOf_i, keyOf_s, gAddI_i, gSubI_i, index_s, idxKind_s, isDat_d, isDat_r, svB_d, svB_r, moB_lst, moB_dk, natAbs10, asL_l, asK_k, itL_l, liL_l, tdL_l, tdL_k, dsL_k, dsL_l, tyL_l, tyL_k, lstAt_r, dkAt_r, items_r, litems_r, toD_r, dkS_r, dkS_tup, dkS_lst, dkS_dk, dkS_str, tyS_r, v_ixRef, v_lenRef, v_cutRef, ditems_r, v_listRef, v_tupleRef, v_eqRef, v_neRef, v_addRR, v_addRL, v_addLR, finO_nx, finO_rt, finO_bk, finO_ct, isTy_int_NoneType, isTy_int_bool, isTy_int_int, isTy_int_str, isTy_int_tuple, isTy_int_list, isTy_int_dict, isTy_bool_NoneType, isTy_bool_bool, isTy_bool_int, isTy_bool_str, isTy_bool_tuple, isTy_bool_list, isTy_bool_dict, isTy_str_NoneType, isTy_str_bool, isTy_str_int, isTy_str_str, isTy_str_tuple, isTy_str_list, isTy_str_dict, isTy_tuple_NoneType, isTy_tuple_bool, isTy_tuple_int, isTy_tuple_str, isTy_tuple_tuple, isTy_tuple_list, isTy_tuple_dict, isTy_list_NoneType, isTy_list_bool, isTy_list_int, isTy_list_str, isTy_list_tuple, isTy_list_list, isTy_list_dict, isTy_dict_NoneType, isTy_dict_bool, isTy_dict_int, isTy_dict_str, isTy_dict_tuple, isTy_dict_list, isTy_dict_dict, eo_non, eo_bl, eo_int, eo_str, eo_tup, eo_lst, ev_nn, ev_ii, ev_bb, ev_ss, ev_tt, ev_ll, ea_nn, ea_nc, ea_cn, ea_cc, ea_mapd, ev_non_bl, ev_non_int, ev_non_str, ev_non_tup, ev_non_lst, ev_bl_non, ev_bl_str, ev_bl_tup, ev_bl_lst, ev_int_non, ev_int_str, ev_int_tup, ev_int_lst, ev_str_non, ev_str_bl, ev_str_int, ev_str_tup, ev_str_lst, ev_tup_non, ev_tup_bl, ev_tup_int, ev_tup_str, ev_tup_lst, ev_lst_non, ev_lst_bl, ev_lst_int, ev_lst_str, ev_lst_tup, wipeE_nil, wipeE_cons, cast_0, cast_1, cast_2, cast_3, cast_4, cast_5, cast_6, cast_7, cast_8, cast_9, cast_10, cast_11, cast_12, keysOf_nil, keysOf_cons, mergeS_nil, mergeS_cons, inR_s, sz_lt, sz_le, leq_nn, leq_nc, leq_cn, leq_cc, key_ss, key_ii, key_is, key_si, findK_nil, findK_cons, mapS_nil, mapS_cons, putS_nil, putS_cons, Option.bind_some, Option.map_some, Option.bind_none, Option.map_none, List.set_cons_zero, List.set_cons_succ, List.set_nil, List.getElem?_cons_zero, List.getElem?_cons_succ, List.length_cons, List.length_nil, List.nil_append, List.cons_append, List.map_cons, List.map_nil, if_true, if_false, Bool.false_eq_true, reduceIte, List.all_cons, List.all_nil, Bool.and_true, Bool.true_and, Bool.and_false, Bool.false_and, Bool.not_true, Bool.not_false, Bool.or_false, Bool.or_true, Bool.false_or, Bool.true_or, and_self, and_true, true_and, Int.toNat_natCast, decide_true, decide_false, List.take_zero, List.take_nil, List.take_succ_cons, List.drop_succ_cons, List.drop_zero, List.drop_nil, List.set_nil, List.replicate_succ, List.replicate_zero, List.foldl_cons, List.foldl_nil, Nat.reduceSub, Nat.reduceAdd, Nat.reduceLT, Nat.reduceLeDiff, Nat.reduceEqDiff, Nat.reduceMul, Int.reduceAdd, Int.reduceSub, Int.reduceMul, Int.reduceLT, Int.reduceLE, Int.reduceNeg, Int.reducePow, Int.reduceToNat, or_true, true_or, or_false, false_or, false_and, and_false, Nat.reducePow, not_true_eq_false, not_false_eq_true, Nat.add_zero, Nat.zero_add, Nat.sub_self, Nat.sub_zero, reduceCtorEq, Option.map_map, Int.reduceEq, Int.reduceNe, Int.reduceMod, Int.reduceDiv, List.append_nil, e0]
    · intro s hs
      obtain ⟨i, hi⟩ := List.getElem?_of_mem hs
      obtain ⟨hj, rfl⟩ := rngL_get hi
      clear hi
      have hi := hj
      have e := callM_pure [] (alike_ok n ds[i] (h2 _ (List.getElem_mem hi)))
      refine ⟨_, rfl, false, ?_, fun h => (nomatch h), fun _ => rfl⟩
      rw [Int.zero_add]
      simp -implicitDefEqProofs only [run_bind, run_some, run_none, run_map, a_var, a_c, a_op, a_un, a_chain, tst_b, a_test, a_and, a_or, a_not, a_andV, a_orV, a_notV, a_if, a_nil, a_cons, a_tup, a_lst, a_new, a_fn, a_isi, a_call, asI_i, a_part, a_noPart, a_cut, a_app, a_ext, a_index, a_sub, a_ps0, a_ps1, a_disp, a_lc, a_tt, a_skip, andThen_nx, andThen_rt, andThen_bk, andThen_ct, a_seq, a_expr, a_ret, a_retN, a_brk, a_cnt, a_ifS, a_set, a_aug, a_asg, two_eq, a_par, a_put, a_daug, a_for, a_scoped, frzO_nx, frzO_bk, frzO_ct, frzO_rt, frzS_d, frzS_r, frzE_nil, frzE_none, frzE_some, a_gN, a_gsNil, a_gsCons, a_gTp, asStr_s, a_strI, asRng_i, a_rng1, asRng2_i, a_rng2, chkOf_d, a_seqI, a_cYes, items_tup, items_lst, litems_lst, ditems_tup, ditems_lst, toD_d, dataAll_nil, dataAll_cons, dataAll_mapd, asD_d, v_ii, v_addI, v_addS, v_addT, v_addL, v_neg, v_ltI, v_ltS, v_eq, v_ne, v_inS, v_notInS, v_ixS, v_ixR, v_ixT, v_ixL, v_cutS, v_cutT, v_cutL, v_lenS, v_lenR, v_lenT, v_lenL, v_abs, v_int1, v_listT, v_listL, v_tupleT, v_tupleL, v_isN, v_notN, isN_non, isN_r, isN_bl, isN_int, isN_str, isN_tup, isN_lst, ty_non, ty_bl, ty_int, ty_str, ty_tup, ty_lst, keyOf_i, keyOf_s, gAddI_i, gSubI_i, index_s, idxKind_s, isDat_d, isDat_r, svB_d, svB_r, moB_lst, moB_dk, natAbs10, asL_l, asK_k, itL_l, liL_l, tdL_l, tdL_k, dsL_k, dsL_l, tyL_l, tyL_k, lstAt_r, dkAt_r, items_r, litems_r, toD_r, dkS_r, dkS_tup, dkS_lst, dkS_dk, dkS_str, tyS_r, v_ixRef, v_lenRef, v_cutRef, ditems_r, v_listRef, v_tupleRef, v_eqRef, v_neRef, v_addRR, v_addRL, v_addLR, finO_nx, finO_rt, finO_bk, finO_ct, isTy_int_NoneType, isTy_int_bool, isTy_int_int, isTy_int_str, isTy_int_tuple, isTy_int_list, isTy_int_dict, isTy_bool_NoneType, isTy_bool_bool, isTy_bool_int, isTy_bool_str, isTy_bool_tuple, isTy_bool_list, isTy_bool_dict, isTy_str_NoneType, isTy_str_bool, isTy_str_int, isTy_str_str, isTy_str_tuple, isTy_str_list, isTy_str_dict, isTy_tuple_NoneType, isTy_tuple_bool, isTy_tuple_int, isTy_tuple_str, isTy_tuple_tuple, isTy_tuple_list, isTy_tuple_dict, isTy_list_NoneType, isTy_list_bool, isTy_list_int, isTy_list_str, isTy_list_tuple, isTy_list_list, isTy_list_dict, isTy_dict_NoneType, isTy_dict_bool, isTy_dict_int, isTy_dict_str, isTy_dict_tuple, isTy_dict_list, isTy_dict_dict, eo_non, eo_bl, eo_int, eo_str, eo_tup, eo_lst, ev_nn, ev_ii, ev_bb, ev_ss, ev_tt, ev_ll, ea_nn, ea_nc, ea_cn, ea_cc, ea_mapd, ev_non_bl, ev_non_int, ev_non_str, ev_non_tup, ev_non_lst, ev_bl_non, ev_bl_str, ev_bl_tup, ev_bl_lst, ev_int_non, ev_int_str, ev_int_tup, ev_int_lst, ev_str_non, ev_str_bl, ev_str_int, ev_str_tup, ev_str_lst, ev_tup_non, ev_tup_bl, ev_tup_int, ev_tup_str, ev_tup_lst, ev_lst_non, ev_lst_bl, ev_lst_int, ev_lst_str, ev_lst_tup, wipeE_nil, wipeE_cons, cast_0, cast_1, cast_2, cast_3, cast_4, cast_5, cast_6, cast_7, cast_8, cast_9, cast_10, cast_11, cast_12, keysOf_nil, keysOf_cons, mergeS_nil, mergeS_cons, inR_s, sz_lt, sz_le, leq_nn, leq_nc, leq_cn, leq_cc, key_ss, key_ii, key_is, key_si, findK_nil, findK_cons, mapS_nil, mapS_cons, putS_nil, putS_cons, Option.bind_some, Option.map_some, Option.bind_none, Option.map_none, List.set_cons_zero, List.set_cons_succ, List.set_nil, List.getElem?_cons_zero, List.getElem?_cons_succ, List.length_cons, List.length_nil, List.nil_append, List.cons_append, List.map_cons, List.map_nil, if_true, if_false, Bool.false_eq_true, reduceIte, List.all_cons, List.all_nil, Bool.and_true, Bool.true_and, Bool.and_false, Bool.false_and, Bool.not_true, Bool.not_false, Bool.or_false, Bool.or_true, Bool.false_or, Bool.true_or, and_self, and_true, true_and, Int.toNat_natCast, decide_true, decide_false, List.take_zero, List.take_nil, List.take_succ_cons, List.drop_succ_cons, List.drop_zero, List.drop_nil, List.set_nil, List.replicate_succ, List.replicate_zero, List.foldl_cons, List.foldl_nil, Nat.reduceSub, Nat.reduceAdd, Nat.reduceLT, Nat.reduceLeDiff, Nat.reduceEqDiff, Nat.reduceMul, Int.reduceAdd, Int.reduceSub, Int.reduceMul, Int.reduceLT, Int.reduceLE, Int.reduceNeg, Int.reducePow, Int.reduceToNat, or_true, true_or, or_false, false_or, false_and, and_false, Nat.reducePow, not_true_eq_false, not_false_eq_true, Nat.add_zero, Nat.zero_add, Nat.sub_self, Nat.sub_zero, reduceCtorEq, Option.map_map, Int.reduceEq, Int.reduceNe, Int.reduceMod, Int.reduceDiv, List.append_nil, atI_lt hi, e]
  | _, .lst _, h => by unfold plain at h; cases h
  | _, .dk _, h => by unfold plain at h; cases h
  | _, .scr _, h => by unfold plain at h; cases h
/-! ### more on lists and slots -/
theorem frzE_okO {m : Nat} {st : Store} {o : Option SV} {r : DL.Env} (h : okO o) : frzE m st (o :: r) = (frzE m st r).map (o :: ·) := by
  cases o with
  | none => rfl
  | some s => cases s with
    | d x => simp
    | r n => exact nomatch h _ rfl
theorem atI_mapn {α β : Type} {f : α → β} {xs : List α} {i : Nat} (h : i < xs.length) : atI (xs.map f) (i : Int) = some (f xs[i]) := by rw [atI_map, atI_lt h]; rfl
theorem map_get {α β : Type} {f : α → β} {xs : List α} {i : Nat} {s : β} (h : (xs.map f)[i]? = some s) : ∃ h : i < xs.length, s = f xs[i] := by
  rw [List.getElem?_map] at h
  obtain ⟨x, h1, h2⟩ := Option.map_eq_some_iff.mp h
  obtain ⟨h3, h4⟩ := List.getElem?_eq_some_iff.mp h1
  exact ⟨h3, by rw [h4, h2]⟩
theorem inR_of {i : Int} (h : -1000000 ≤ i ∧ i ≤ 1000000) : inR i = true := by
  unfold inR
  exact decide_eq_true (by omega)
@[simp] theorem rngL_zero (lo : Int) : rngL lo 0 = [] := rfl
/-! ### comprehensions that change nothing -/
section
variable {tg : FG} {tt : FT} {elt : FE} {δw : DL.Env} {st : Store}
theorem lcL_fil {α : Type} (g : α → SV) (c : α → Bool) (f : α → D) (xs : List α) (acc : List D) (hz : acc.length + xs.length ≤ 100000)
    (hs : ∀ x ∈ xs, ∃ δ1, tg st (g x) δw = some δ1 ∧ tt δ1 st = some (c x, st) ∧ (c x = true → elt δ1 st = some (.d (f x), st))) : lcL cYes tg tt elt δw (xs.map g) st acc = some (acc ++ (xs.filter c).map f, st) := by
  induction xs generalizing acc with
  | nil => simp [lcL]
  | cons x r ih =>
    obtain ⟨δ1, e1, e2, e3⟩ := hs x (by simp)
    rw [List.length_cons] at hz
    unfold lcL
    rw [List.map_cons]
    simp only [a_cYes, Option.bind_some, e1, e2]
    cases h : c x with
    | true =>
      simp only [if_true, e3 h, Option.bind_some, asD_d]
      rw [if_pos (by have := line_big; omega), ih (acc ++ [f x]) (by simp; omega) fun y hy => hs y (List.mem_cons_of_mem _ hy)]
      simp [List.filter_cons, h]
    | false =>
      simp only [Bool.false_eq_true, if_false]
      rw [ih acc (by omega) fun y hy => hs y (List.mem_cons_of_mem _ hy)]
      simp [List.filter_cons, h]
theorem lcL_map {α : Type} (g : α → SV) (f : α → D) (xs : List α) (acc : List D) (hz : acc.length + xs.length ≤ 100000)
    (hs : ∀ x ∈ xs, ∃ δ1, tg st (g x) δw = some δ1 ∧ tt δ1 st = some (true, st) ∧ elt δ1 st = some (.d (f x), st)) : lcL cYes tg tt elt δw (xs.map g) st acc = some (acc ++ xs.map f, st) := by
  have h := lcL_fil (tg := tg) (tt := tt) (elt := elt) (δw := δw) (st := st) g (fun _ => true) f xs acc hz fun x hx => by
    obtain ⟨δ1, e1, e2, e3⟩ := hs x hx
    exact ⟨δ1, e1, e2, fun _ => e3⟩
  rw [h, List.filter_eq_self.mpr fun _ _ => rfl]
theorem rngL_eq (n : Nat) : rngL 0 n = (List.range n).map fun (i : Nat) => SV.d (.int i) := by
  unfold rngL
  simp
theorem lcL_rng (f : Nat → D) (n : Nat) (acc : List D) (hz : acc.length + n ≤ 100000)
    (hs : ∀ j, j < n → ∃ δ1, tg st (.d (.int j)) δw = some δ1 ∧ tt δ1 st = some (true, st) ∧ elt δ1 st = some (.d (f j), st)) : lcL cYes tg tt elt δw (rngL 0 n) st acc = some (acc ++ (List.range n).map f, st) := by
  rw [rngL_eq]
  exact lcL_map _ f _ _ (by simpa using hz) fun j hj => hs j (List.mem_range.mp hj)
theorem lcL_none {α : Type} (g : α → SV) (xs : List α) (acc : List D) (hz : acc.length + xs.length ≤ 100000)
    (hs : ∀ x ∈ xs, ∃ δ1, tg st (g x) δw = some δ1 ∧ tt δ1 st = some (false, st)) : lcL cYes tg tt elt δw (xs.map g) st acc = some (acc, st) := by
  have h := lcL_fil (tg := tg) (tt := tt) (elt := elt) (δw := δw) (st := st) g (fun _ => false) (fun _ => .non) xs acc hz fun x hx => by
    obtain ⟨δ1, e1, e2⟩ := hs x hx
    exact ⟨δ1, e1, e2, fun h => nomatch h⟩
  rw [h, List.filter_eq_nil_iff.mpr fun _ _ => by simp]
  simp
end
@[simp] theorem at0 {α : Type} (x : α) (r : List α) : atI (x :: r) 0 = some x := atI_nat (j := 0) rfl
@[simp] theorem at1 {α : Type} (x y : α) (r : List α) : atI (x :: y :: r) 1 = some y := atI_nat (j := 1) rfl
@[simp] theorem at2 {α : Type} (x y z : α) (r : List α) : atI (x :: y :: z :: r) 2 = some z := atI_nat (j := 2) rfl
/-- a loop that leaves with a value at the first that is not as asked -/
theorem forL_all {α : Type} {tg : FG} {body : FS} {st : Store} {v : SV} (E : DL.Env → Prop) (g : α → SV) (c : α → Bool) : ∀ (xs : List α) {δ : DL.Env} (h0 : E δ)
    (hs : ∀ x ∈ xs, ∀ δ, E δ → DL.Run (tg st (g x) δ) fun δ1 => DL.Run (body δ1 st) fun p => p.1 = (if c x = true then .nx else .rt v) ∧ E p.2.1 ∧ p.2.2 = st),
    DL.Run (forL cYes tg body (xs.map g) δ st) fun p => p.1 = (if xs.all c = true then .nx else .rt v) ∧ E p.2.1 ∧ p.2.2 = st
  | [], δ, h0, hs => by
    unfold forL
    simp [h0]
  | x :: r, δ, h0, hs => by
    unfold forL
    rw [List.map_cons]
    simp only [a_cYes, Option.bind_some, run_bind]
    refine (hs x (by simp) δ h0).mono fun δ1 h1 => h1.mono fun p h2 => ?_
    obtain ⟨o, δ2, st2⟩ := p
    obtain ⟨e1, e2, e3⟩ := h2
    dsimp only at e1 e2 e3
    subst e3
    cases h : c x with
    | true =>
      rw [h, if_pos rfl] at e1
      subst e1
      have := forL_all E g c r e2 fun y hy => hs y (List.mem_cons_of_mem _ hy)
      simpa [List.all_cons, h] using this
    | false =>
      rw [h] at e1
      subst e1
      simpa [List.all_cons, h] using e2
theorem fil_empty {α : Type} (c : α → Bool) (xs : List α) : (xs.filter fun x => !c x).isEmpty = xs.all c := by
  induction xs with
  | nil => rfl
  | cons x r ih => cases h : c x <;> simp [List.filter_cons, h, ih]
theorem all_cut {α : Type} {f : α → Bool} {xs : List α} {lo hi : Option Int} (h : xs.all f = true) : (cutL xs lo hi).all f = true := by
  rw [List.all_eq_true] at h ⊢
  exact fun x hx => h x (cutL_sub hx)
theorem wM_frz {w : MO} (h : wM w) : ∃ x, tdL (some w) = some x := by
  obtain ⟨ds, k, rfl, _⟩ := h
  exact ⟨_, rfl⟩
theorem wM_new (ds : List Int) : wM (.dk [(.inr ⟨#[100, 114, 97, 119, 115]⟩, .d (.lst (ds.map .int))), (.inr ⟨#[97, 116]⟩, .d (.int 0))]) := ⟨ds, 0, rfl, by omega⟩
/-- a def that is handed the draws alone -/
theorem c_w {F : List SV → Store → Option (SV × Store)} {w : MO} (h : wM w) (r : Store) {as : List SV} (ha : as.all isDat = true) {Q : D → Prop} (hf : DL.Run (F (.r 0 :: as) [w]) fun p => ∃ (v : D) (w' : MO), p = (.d v, [w']) ∧ wM w' ∧ Q v) :
    DL.Run (callM F (.r 0 :: as) (w :: r)) fun p => ∃ (v : D) (w' : MO), p = (.d v, w' :: r) ∧ wM w' ∧ Q v := by
  rw [callM_one (kOf_r0 _ ha) (wM_mo h), run_bind]
  refine hf.mono ?_
  rintro p ⟨v, w', rfl, h1, h2⟩
  exact run_some.mpr ⟨v, w', rfl, h1, h2⟩
theorem strAll_map {α : Type} (f : α → List Nat) (xs : List α) : strAll (xs.map fun x => D.str (f x)) = some (xs.map f) := by
  induction xs with
  | nil => rfl
  | cons x r ih => rw [List.map_cons, strAll, ih]; rfl
theorem joinN_nil : ∀ zs : List (List Nat), joinN [] zs = zs.flatten
  | [] => rfl
  | [x] => by simp [joinN]
  | x :: y :: r => by rw [joinN, joinN_nil (y :: r)]; simp; exact nofun
/-- a text of signs joined -/
theorem join_signs (st : Store) (cs : List Nat) (h : cs.length ≤ 100000) : dJoin st (.d (.str [])) (.d (.lst (cs.map fun c => .str [c]))) = some (.d (.str cs)) := by
  rw [join_l, strAll_map]
  have e1 : ∀ xs : List Nat, ((xs.map fun c => [c]).map List.length).sum = xs.length := by
    intro xs; induction xs with
    | nil => rfl
    | cons x r ih => simp only [List.map_cons, List.sum_cons, ih, List.length_cons, List.length_nil]; omega
  have e2 : (cs.map fun c => [c]).flatten = cs := by
    induction cs with
    | nil => rfl
    | cons x r ih => rw [List.map_cons, List.flatten_cons, ih (by simp at h; omega)]; rfl
  simp only [Option.bind_some, e1, joinN_nil, e2]
  rw [if_pos (by simp; omega)]
end LX

set_option maxHeartbeats 1000000
namespace K44
open PySem PySem.Spec L2 DL LX
noncomputable def g_is_below : FS :=
  (cRet (cAndV (cIsi "int" (cVar 0)) (cAndV (cNotV (cIsi "bool" (cVar 0))) (cChain dLe dLt (cC (.int 0)) (cVar 0) (cVar 1)))))
noncomputable def F_is_below : List SV → Store → Option (SV × Store) := runF 2 g_is_below
noncomputable def g_is_sign : FS :=
  (cRet (cAndV (cIsi "str" (cVar 0)) (cAndV (cOp dEq (cFn dLen (cCons (cVar 0) cNil)) (cC (.int 1))) (cOp dIn (cVar 0) (cC (.str [97, 98, 99, 100, 101, 102, 103, 104, 105, 106, 107, 108, 109, 110, 111, 112, 113, 114, 115, 116, 117, 118, 119, 120, 121, 122]))))))
noncomputable def F_is_sign : List SV → Store → Option (SV × Store) := runF 1 g_is_sign
noncomputable def g_is_tuple_of : FS :=
  (cRet (cAndV (cIsi "tuple" (cVar 0)) (cOp dEq (cFn dLen (cCons (cVar 0) cNil)) (cVar 1))))
noncomputable def F_is_tuple_of : List SV → Store → Option (SV × Store) := runF 2 g_is_tuple_of
noncomputable def g_is_box : FS :=
  (cSeq (cIfS (cOr (cNot (cTest (cIsi "tuple" (cVar 0)))) (cTest (cOp dEq (cVar 0) (cTup cNil))))
  (cRet (cC (.bl false)))
  cSkip)
  (cSeq (cFor (cSeqI (cVar 0)) (gN 2)
  (cSeq (cIfS (cNot (cTest (cCall F_is_tuple_of (cCons (cVar 2) (cCons (cFn dLen (cCons (cVar 1) cNil)) cNil)))))
  (cRet (cC (.bl false)))
  cSkip)
  (cFor (cSeqI (cVar 2)) (gN 3)
  (cIfS (cOr (cNot (cTest (cCall F_is_tuple_of (cCons (cVar 3) (cCons (cC (.int 2)) cNil))))) (cOr (cNot (cTest (cCall F_is_sign (cCons (cOp dIx (cVar 3) (cC (.int 0))) cNil)))) (cNot (cTest (cCall F_is_below (cCons (cOp dIx (cVar 3) (cC (.int 1))) (cCons (cFn dLen (cCons (cVar 0) cNil)) cNil)))))))
  (cRet (cC (.bl false)))
  cSkip))))
  (cRet (cC (.bl true)))))
noncomputable def F_is_box : List SV → Store → Option (SV × Store) := runF 4 g_is_box
noncomputable def g_as_stepping : FS :=
  (cSeq (cSet 2 (cNew cNil))
  (cSeq (cFor (cSeqI (cVar 0)) (gN 3)
  (cExpr (cApp (cVar 2) (cTup (cCons (cFn dTuple (cCons (cLc (cRng1 (cFn dLen (cCons (cVar 1) cNil))) (gN 4) cTt (cTup (cCons (cOp dIx (cVar 1) (cVar 4)) (cCons (cOp dIx (cOp dIx (cVar 3) (cVar 4)) (cC (.int 0))) (cCons (cOp dIx (cOp dIx (cVar 3) (cVar 4)) (cC (.int 1))) cNil)))) [4]) cNil)) (cCons (cC (.str [])) cNil))))))
  (cRet (cTup (cCons (cC (.str [])) (cCons (cFn dTuple (cCons (cVar 2) cNil)) cNil))))))
noncomputable def F_as_stepping : List SV → Store → Option (SV × Store) := runF 5 g_as_stepping
noncomputable def g__law_is_pair : FS :=
  (cSeq (cIfS (cOr (cNot (cTest (cIsi "tuple" (cVar 0)))) (cOr (cTest (cOp dNe (cFn dLen (cCons (cVar 0) cNil)) (cC (.int 2)))) (cOr (cNot (cTest (cIsi "str" (cOp dIx (cVar 0) (cC (.int 0)))))) (cTest (cOp dNe (cFn dLen (cCons (cOp dIx (cVar 0) (cC (.int 0))) cNil)) (cC (.int 1)))))))
  (cRet (cC (.bl false)))
  cSkip)
  (cSeq (cIfS (cOr (cTest (cOp dNotIn (cOp dIx (cVar 0) (cC (.int 0))) (cC (.str [97, 98, 99, 100, 101, 102, 103, 104, 105, 106, 107, 108, 109, 110, 111, 112, 113, 114, 115, 116, 117, 118, 119, 120, 121, 122])))) (cOr (cNot (cTest (cIsi "int" (cOp dIx (cVar 0) (cC (.int 1)))))) (cTest (cIsi "bool" (cOp dIx (cVar 0) (cC (.int 1)))))))
  (cRet (cC (.bl false)))
  cSkip)
  (cRet (cChain dLe dLt (cC (.int 0)) (cOp dIx (cVar 0) (cC (.int 1))) (cVar 1)))))
noncomputable def F__law_is_pair : List SV → Store → Option (SV × Store) := runF 2 g__law_is_pair
noncomputable def g__law_is_box : FS :=
  (cSeq (cIfS (cOr (cNot (cTest (cIsi "tuple" (cVar 0)))) (cTest (cOp dEq (cVar 0) (cTup cNil))))
  (cRet (cC (.bl false)))
  cSkip)
  (cSeq (cFor (cSeqI (cVar 0)) (gN 2)
  (cSeq (cIfS (cOr (cNot (cTest (cIsi "tuple" (cVar 2)))) (cTest (cOp dNe (cFn dLen (cCons (cVar 2) cNil)) (cFn dLen (cCons (cVar 1) cNil)))))
  (cRet (cC (.bl false)))
  cSkip)
  (cIfS (cTest (cOp dNe (cLc (cSeqI (cVar 2)) (gN 3) (cNot (cTest (cCall F__law_is_pair (cCons (cVar 3) (cCons (cFn dLen (cCons (cVar 0) cNil)) cNil))))) (cVar 3) [3]) (cLst cNil)))
  (cRet (cC (.bl false)))
  cSkip)))
  (cRet (cC (.bl true)))))
noncomputable def F__law_is_box : List SV → Store → Option (SV × Store) := runF 4 g__law_is_box
noncomputable def g__law_bent : FS :=
  (cSeq (cSet 2 (cCall F__law_next (cCons (cVar 0) (cCons (cFn dLen (cCons (cVar 1) cNil)) cNil))))
  (cSeq (cSet 3 (cOp dIx (cVar 1) (cVar 2)))
  (cSeq (cSet 4 (cLst (cCons (cTup (cCons (cC (.str [120])) (cCons (cC (.int 0)) cNil))) (cCons (cTup (cCons (cC (.str [120])) (cCons (cFn dLen (cCons (cVar 1) cNil)) cNil))) (cCons (cTup (cCons (cC (.str [120])) (cCons (cUn dNeg (cC (.int 1))) cNil))) (cCons (cTup (cCons (cC (.str [88])) (cCons (cC (.int 0)) cNil))) (cCons (cTup (cCons (cC (.str [])) (cCons (cC (.int 0)) cNil))) (cCons (cTup (cCons (cC (.str [120, 121])) (cCons (cC (.int 0)) cNil))) (cCons (cTup (cCons (cC (.str [120])) (cCons (cC (.bl true)) cNil))) (cCons (cTup (cCons (cC (.str [120])) cNil)) (cCons (cC (.int 0)) (cCons (cLst (cCons (cC (.str [120])) (cCons (cC (.int 0)) cNil))) (cCons (cTup (cCons (cC (.int 0)) (cCons (cC (.str [120])) cNil))) cNil)))))))))))))
  (cSeq (cIfS (cOr (cTest (cOp dEq (cVar 3) (cTup cNil))) (cTest (cOp dEq (cCall F__law_next (cCons (cVar 0) (cCons (cC (.int 5)) cNil))) (cC (.int 0)))))
  (cRet (cCall F__law_pick (cCons (cVar 0) (cCons (cLst (cCons (cOp dAdd (cCut (cVar 1) cNoPart (cPart (cVar 2))) (cCut (cVar 1) (cPart (cOp dAdd (cVar 2) (cC (.int 1)))) cNoPart)) (cCons (cFn dList (cCons (cVar 1) cNil)) (cCons (cOp dAdd (cVar 1) (cTup (cCons (cTup cNil) cNil))) (cCons (cC .non) (cCons (cTup cNil) (cCons (cC (.int 0)) (cCons (cOp dAdd (cOp dAdd (cCut (cVar 1) cNoPart (cPart (cVar 2))) (cTup (cCons (cFn dList (cCons (cVar 3) cNil)) cNil))) (cCut (cVar 1) (cPart (cOp dAdd (cVar 2) (cC (.int 1)))) cNoPart)) cNil)))))))) cNil))))
  cSkip)
  (cSeq (cSet 5 (cCall F__law_next (cCons (cVar 0) (cCons (cFn dLen (cCons (cVar 3) cNil)) cNil))))
  (cSeq (cSet 6 (cCall F__law_pick (cCons (cVar 0) (cCons (cLst (cCons (cTup (cCons (cCall F__law_pick (cCons (cVar 0) (cCons (cVar 4) cNil))) cNil)) (cCons (cTup cNil) (cCons (cTup (cCons (cOp dIx (cVar 3) (cVar 5)) (cCons (cOp dIx (cVar 3) (cVar 5)) cNil))) cNil)))) cNil))))
  (cRet (cOp dAdd (cOp dAdd (cCut (cVar 1) cNoPart (cPart (cVar 2))) (cTup (cCons (cOp dAdd (cOp dAdd (cCut (cVar 3) cNoPart (cPart (cVar 5))) (cVar 6)) (cCut (cVar 3) (cPart (cOp dAdd (cVar 5) (cC (.int 1)))) cNoPart)) cNil))) (cCut (cVar 1) (cPart (cOp dAdd (cVar 2) (cC (.int 1)))) cNoPart)))))))))
noncomputable def F__law_bent : List SV → Store → Option (SV × Store) := runF 7 g__law_bent
noncomputable def g__law_stepped : FS :=
  (cSeq (cPar 2 3 (cCons (cOp dIx (cVar 0) (cC (.int 0))) (cCons (cC (.int 0)) cNil)))
  (cSeq (cFor (cStrI (cVar 1)) (gN 4)
  (cSeq (cSet 5 (cLc (cSeqI (cOp dIx (cOp dIx (cOp dIx (cVar 0) (cC (.int 1))) (cVar 3)) (cC (.int 0)))) (gN 7) (cTest (cOp dEq (cOp dIx (cVar 7) (cC (.int 0))) (cVar 4))) (cVar 7) [7]))
  (cSeq (cIfS (cTest (cOp dNe (cFn dLen (cCons (cVar 5) cNil)) (cC (.int 1))))
  (cRet (cC .non))
  cSkip)
  (cSeq (cSet 2 (cOp dAdd (cVar 2) (cOp dIx (cOp dIx (cVar 5) (cC (.int 0))) (cC (.int 1)))))
  (cSet 3 (cOp dIx (cOp dIx (cVar 5) (cC (.int 0))) (cC (.int 2))))))))
  (cSeq (cSet 6 (cOp dIx (cOp dIx (cOp dIx (cVar 0) (cC (.int 1))) (cVar 3)) (cC (.int 1))))
  (cRet (cIf (cTest (cOp dIsN (cVar 6) (cC .non))) (cC .non) (cOp dAdd (cVar 2) (cVar 6)))))))
noncomputable def F__law_stepped : List SV → Store → Option (SV × Store) := runF 8 g__law_stepped
noncomputable def g_law : FS :=
  (cSeq (cSet 1 (cDisp (cPs1 (cC (.str [100, 114, 97, 119, 115])) (cCall F__law_draws (cCons (cVar 0) (cCons (cC (.int 500)) cNil))) (cPs1 (cC (.str [97, 116])) (cC (.int 0)) cPs0))))
  (cSeq (cFor (cRng1 (cC (.int 4))) (gN 2)
  (cSeq (cSet 3 (cCall F__law_pick (cCons (cVar 1) (cCons (cLst (cCons (cC (.str [97, 98])) (cCons (cC (.str [97])) (cCons (cC (.str [97, 98, 99])) (cCons (cC (.str [98, 122])) cNil))))) cNil))))
  (cSeq (cSet 4 (cCall F__law_box (cCons (cVar 1) (cCons (cVar 3) (cCons (cC (.int 4)) cNil)))))
  (cSeq (cSet 5 (cCall F_as_stepping (cCons (cVar 4) (cCons (cVar 3) cNil))))
  (cSeq (cFor (cRng1 (cC (.int 6))) (gN 6)
  (cSeq (cSet 7 (cOp dJoin (cC (.str [])) (cLc (cRng1 (cCall F__law_next (cCons (cVar 1) (cCons (cC (.int 7)) cNil)))) (gN 10) cTt (cCall F__law_pick (cCons (cVar 1) (cCons (cVar 3) cNil))) [10])))
  (cSeq (cSet 8 (cOp dIx (cCall F__law_from (cCons (cVar 4) (cCons (cVar 3) (cCons (cC (.int 0)) (cCons (cVar 7) cNil))))) (cC (.int 0))))
  (cIfS (cOr (cNot (cTest (cCall (F__law_alike 12) (cCons (cCall F_box_answer (cCons (cVar 4) (cCons (cVar 3) (cCons (cVar 7) cNil)))) (cCons (cVar 8) cNil))))) (cTest (cOp dNe (cCall F__law_stepped (cCons (cVar 5) (cCons (cVar 7) cNil))) (cVar 8))))
  (cRet (cC (.bl false)))
  cSkip))))
  (cSeq (cSet 9 (cVar 4))
  (cFor (cRng1 (cC (.int 5))) (gN 6)
  (cSeq (cIfS (cNot (cTest (cCall (F__law_alike 12) (cCons (cCall F_is_box (cCons (cVar 9) (cCons (cVar 3) cNil))) (cCons (cCall F__law_is_box (cCons (cVar 9) (cCons (cVar 3) cNil))) cNil)))))
  (cRet (cC (.bl false)))
  cSkip)
  (cSet 9 (cCall F__law_bent (cCons (cVar 1) (cCons (cVar 4) cNil))))))))))))
  (cRet (cAndV (cCall (F__law_alike 12) (cCons (cCall F_is_box (cCons (cTup (cCons (cTup cNil) cNil)) (cCons (cC (.str [])) cNil))) (cCons (cC (.bl true)) cNil))) (cCall (F__law_alike 12) (cCons (cCall F_is_box (cCons (cTup cNil) (cCons (cC (.str [97])) cNil))) (cCons (cC (.bl false)) cNil)))))))
noncomputable def F_law : List SV → Store → Option (SV × Store) := runF 11 g_law
end K44

set_option maxHeartbeats 1000000
namespace K44
open PySem PySem.Spec L2 DL LX
def topS (i : Nat) : Stmt := PySem.Challenge.pw_twotapes_k44_boxes.main.body.getD i (.Pass ⟨0, 0, 0, 0⟩)
abbrev s_is_below : Stmt := topS 2
abbrev N_is_below : List Str := ["thing", "many"]
theorem sc_is_below : FnScope N_is_below ["thing", "many"] (defScope s_is_below) := ⟨rfl, rfl, rfl, by decide +kernel, rfl, by decide +kernel, by decide +kernel⟩
abbrev s_is_sign : Stmt := topS 3
abbrev N_is_sign : List Str := ["thing"]
theorem sc_is_sign : FnScope N_is_sign ["thing"] (defScope s_is_sign) := ⟨rfl, rfl, rfl, by decide +kernel, rfl, by decide +kernel, by decide +kernel⟩
abbrev s_is_tuple_of : Stmt := topS 4
abbrev N_is_tuple_of : List Str := ["thing", "many"]
theorem sc_is_tuple_of : FnScope N_is_tuple_of ["thing", "many"] (defScope s_is_tuple_of) := ⟨rfl, rfl, rfl, by decide +kernel, rfl, by decide +kernel, by decide +kernel⟩
abbrev s_is_box : Stmt := topS 6
abbrev N_is_box : List Str := ["thing", "signs", "state", "pair"]
theorem sc_is_box : FnScope N_is_box ["thing", "signs"] (defScope s_is_box) := ⟨rfl, rfl, rfl, by decide +kernel, rfl, by decide +kernel, by decide +kernel⟩
abbrev s_answer_from : Stmt := topS 7
abbrev N_answer_from : List Str := ["box", "signs", "state", "row", "told", "sign", "out"]
theorem sc_answer_from : FnScope N_answer_from ["box", "signs", "state", "row"] (defScope s_answer_from) := ⟨rfl, rfl, rfl, by decide +kernel, rfl, by decide +kernel, by decide +kernel⟩
abbrev s_box_answer : Stmt := topS 8
abbrev N_box_answer : List Str := ["box", "signs", "row"]
theorem sc_box_answer : FnScope N_box_answer ["box", "signs", "row"] (defScope s_box_answer) := ⟨rfl, rfl, rfl, by decide +kernel, rfl, by decide +kernel, by decide +kernel⟩
abbrev s_as_stepping : Stmt := topS 9
abbrev N_as_stepping : List Str := ["box", "signs", "rows", "state", "k"]
theorem sc_as_stepping : FnScope N_as_stepping ["box", "signs"] (defScope s_as_stepping) := ⟨rfl, rfl, rfl, by decide +kernel, rfl, by decide +kernel, by decide +kernel⟩
abbrev s__law_draws : Stmt := topS 11
abbrev N__law_draws : List Str := ["script", "many", "draws", "mixed", "k", "cell", "rest", "turn"]
theorem sc__law_draws : FnScope N__law_draws ["script", "many"] (defScope s__law_draws) := ⟨rfl, rfl, rfl, by decide +kernel, rfl, by decide +kernel, by decide +kernel⟩
abbrev s__law_next : Stmt := topS 12
abbrev N__law_next : List Str := ["w", "many"]
theorem sc__law_next : FnScope N__law_next ["w", "many"] (defScope s__law_next) := ⟨rfl, rfl, rfl, by decide +kernel, rfl, by decide +kernel, by decide +kernel⟩
abbrev s__law_pick : Stmt := topS 13
abbrev N__law_pick : List Str := ["w", "rows"]
theorem sc__law_pick : FnScope N__law_pick ["w", "rows"] (defScope s__law_pick) := ⟨rfl, rfl, rfl, by decide +kernel, rfl, by decide +kernel, by decide +kernel⟩
abbrev s__law_alike : Stmt := topS 14
abbrev N__law_alike : List Str := ["told", "due", "k"]
theorem sc__law_alike : FnScope N__law_alike ["told", "due"] (defScope s__law_alike) := ⟨rfl, rfl, rfl, by decide +kernel, rfl, by decide +kernel, by decide +kernel⟩
abbrev s__law_box : Stmt := topS 15
abbrev N__law_box : List Str := ["w", "signs", "most", "many", "outs", "s", "sign"]
theorem sc__law_box : FnScope N__law_box ["w", "signs", "most"] (defScope s__law_box) := ⟨rfl, rfl, rfl, by decide +kernel, rfl, by decide +kernel, by decide +kernel⟩
abbrev s__law_from : Stmt := topS 16
abbrev N__law_from : List Str := ["box", "signs", "state", "row", "told", "sign", "out"]
theorem sc__law_from : FnScope N__law_from ["box", "signs", "state", "row"] (defScope s__law_from) := ⟨rfl, rfl, rfl, by decide +kernel, rfl, by decide +kernel, by decide +kernel⟩
abbrev s__law_is_pair : Stmt := topS 18
abbrev N__law_is_pair : List Str := ["pair", "many"]
theorem sc__law_is_pair : FnScope N__law_is_pair ["pair", "many"] (defScope s__law_is_pair) := ⟨rfl, rfl, rfl, by decide +kernel, rfl, by decide +kernel, by decide +kernel⟩
abbrev s__law_is_box : Stmt := topS 19
abbrev N__law_is_box : List Str := ["thing", "signs", "state", "pair"]
theorem sc__law_is_box : FnScope N__law_is_box ["thing", "signs"] (defScope s__law_is_box) := ⟨rfl, rfl, rfl, by decide +kernel, rfl, by decide +kernel, by decide +kernel⟩
abbrev s__law_bent : Stmt := topS 20
abbrev N__law_bent : List Str := ["w", "box", "at", "state", "some", "k", "more"]
theorem sc__law_bent : FnScope N__law_bent ["w", "box"] (defScope s__law_bent) := ⟨rfl, rfl, rfl, by decide +kernel, rfl, by decide +kernel, by decide +kernel⟩
abbrev s__law_stepped : Stmt := topS 21
abbrev N__law_stepped : List Str := ["stepping", "row", "told", "state", "sign", "able", "end", "step"]
theorem sc__law_stepped : FnScope N__law_stepped ["stepping", "row"] (defScope s__law_stepped) := ⟨rfl, rfl, rfl, by decide +kernel, rfl, by decide +kernel, by decide +kernel⟩
abbrev s_law : Stmt := topS 22
abbrev N_law : List Str := ["script", "w", "turn", "signs", "box", "stepping", "k", "row", "due", "thing", "j"]
theorem sc_law : FnScope N_law ["script"] (defScope s_law) := ⟨rfl, rfl, rfl, by decide +kernel, rfl, by decide +kernel, by decide +kernel⟩
/-- what the top has left -/
structure Tx (K : PySem.W.Frag) (mg : Str → Option Value) where
  f_is_below : Addr
  fd_is_below : FuncData
  d_is_below : Def K mg "is_below" s_is_below ["thing", "many"] f_is_below fd_is_below
  f_is_sign : Addr
  fd_is_sign : FuncData
  d_is_sign : Def K mg "is_sign" s_is_sign ["thing"] f_is_sign fd_is_sign
  f_is_tuple_of : Addr
  fd_is_tuple_of : FuncData
  d_is_tuple_of : Def K mg "is_tuple_of" s_is_tuple_of ["thing", "many"] f_is_tuple_of fd_is_tuple_of
  f_is_box : Addr
  fd_is_box : FuncData
  d_is_box : Def K mg "is_box" s_is_box ["thing", "signs"] f_is_box fd_is_box
  f_answer_from : Addr
  fd_answer_from : FuncData
  d_answer_from : Def K mg "answer_from" s_answer_from ["box", "signs", "state", "row"] f_answer_from fd_answer_from
  f_box_answer : Addr
  fd_box_answer : FuncData
  d_box_answer : Def K mg "box_answer" s_box_answer ["box", "signs", "row"] f_box_answer fd_box_answer
  f_as_stepping : Addr
  fd_as_stepping : FuncData
  d_as_stepping : Def K mg "as_stepping" s_as_stepping ["box", "signs"] f_as_stepping fd_as_stepping
  f__law_draws : Addr
  fd__law_draws : FuncData
  d__law_draws : Def K mg "_law_draws" s__law_draws ["script", "many"] f__law_draws fd__law_draws
  f__law_next : Addr
  fd__law_next : FuncData
  d__law_next : Def K mg "_law_next" s__law_next ["w", "many"] f__law_next fd__law_next
  f__law_pick : Addr
  fd__law_pick : FuncData
  d__law_pick : Def K mg "_law_pick" s__law_pick ["w", "rows"] f__law_pick fd__law_pick
  f__law_alike : Addr
  fd__law_alike : FuncData
  d__law_alike : Def K mg "_law_alike" s__law_alike ["told", "due"] f__law_alike fd__law_alike
  f__law_box : Addr
  fd__law_box : FuncData
  d__law_box : Def K mg "_law_box" s__law_box ["w", "signs", "most"] f__law_box fd__law_box
  f__law_from : Addr
  fd__law_from : FuncData
  d__law_from : Def K mg "_law_from" s__law_from ["box", "signs", "state", "row"] f__law_from fd__law_from
  f__law_is_pair : Addr
  fd__law_is_pair : FuncData
  d__law_is_pair : Def K mg "_law_is_pair" s__law_is_pair ["pair", "many"] f__law_is_pair fd__law_is_pair
  f__law_is_box : Addr
  fd__law_is_box : FuncData
  d__law_is_box : Def K mg "_law_is_box" s__law_is_box ["thing", "signs"] f__law_is_box fd__law_is_box
  f__law_bent : Addr
  fd__law_bent : FuncData
  d__law_bent : Def K mg "_law_bent" s__law_bent ["w", "box"] f__law_bent fd__law_bent
  f__law_stepped : Addr
  fd__law_stepped : FuncData
  d__law_stepped : Def K mg "_law_stepped" s__law_stepped ["stepping", "row"] f__law_stepped fd__law_stepped
  f_law : Addr
  fd_law : FuncData
  d_law : Def K mg "law" s_law ["script"] f_law fd_law
  abs : mg "abs" = none
  bool : mg "bool" = none
  int : mg "int" = none
  isinstance : mg "isinstance" = none
  len : mg "len" = none
  list : mg "list" = none
  range : mg "range" = none
  str : mg "str" = none
  tuple : mg "tuple" = none
  c_LETTERS : ∃ t : Tok, mg "LETTERS" = some (.str ⟨([97, 98, 99, 100, 101, 102, 103, 104, 105, 106, 107, 108, 109, 110, 111, 112, 113, 114, 115, 116, 117, 118, 119, 120, 121, 122] : List Nat).toArray⟩ t)
section
variable {P : Program} {w : World} {K : PySem.W.Frag} {mg : Str → Option Value} {base : Heap}
theorem ok_is_below (T : Tx K mg) : FnD P w K mg base 1 T.f_is_below T.fd_is_below ["thing", "many"] F_is_below :=
  fn_d (k := 0) (N := N_is_below) T.d_is_below.fn sc_is_below fun cdv A outer s H E hr =>
  (dss_one (ds_ret (de_and (de_isi (by rfl) T.isinstance (by rfl) T.int (by decide +kernel) kit_int (de_var 0)) (de_and (de_not (de_isi (by rfl) T.isinstance (by rfl) T.bool (by decide +kernel) kit_bool (de_var 0))) (de_one (de_chain (op_le) (os_ii0 fun _ a b => .bl _) ((op_lt.or op_lt_str)) os_lt de_int (de_var 0) (de_var 1)))))))

theorem ok_is_sign (T : Tx K mg) : FnD P w K mg base 1 T.f_is_sign T.fd_is_sign ["thing"] F_is_sign :=
  fn_d (k := 0) (N := N_is_sign) T.d_is_sign.fn sc_is_sign fun cdv A outer s H E hr =>
  (dss_one (ds_ret (de_and (de_isi (by rfl) T.isinstance (by rfl) T.str (by decide +kernel) kit_str (de_var 0)) (de_and (de_cmp (op_eqD (hu64 hr)) os_eq (de_len (by rfl) T.len (de_var 0)) de_int (nomark _)) (de_one (de_cmp (op_inA (hu65 hr)) os_in (de_var 0) (de_gstr [97, 98, 99, 100, 101, 102, 103, 104, 105, 106, 107, 108, 109, 110, 111, 112, 113, 114, 115, 116, 117, 118, 119, 120, 121, 122] (by rfl) T.c_LETTERS.choose_spec ⟨_, rfl⟩) rfl))))))

theorem ok_is_tuple_of (T : Tx K mg) : FnD P w K mg base 1 T.f_is_tuple_of T.fd_is_tuple_of ["thing", "many"] F_is_tuple_of :=
  fn_d (k := 0) (N := N_is_tuple_of) T.d_is_tuple_of.fn sc_is_tuple_of fun cdv A outer s H E hr =>
  (dss_one (ds_ret (de_and (de_isi (by rfl) T.isinstance (by rfl) T.tuple (by decide +kernel) kit_tuple (de_var 0)) (de_one (de_cmp (op_eqD (hu64 hr)) os_eq (de_len (by rfl) T.len (de_var 0)) (de_var 1) (nomark _))))))

theorem ok_is_box (T : Tx K mg) : FnD P w K mg base 2 T.f_is_box T.fd_is_box ["thing", "signs"] F_is_box :=
  fn_d (k := 1) (N := N_is_box) T.d_is_box.fn sc_is_box fun cdv A outer s H E hr =>
  (dss_cons (ds_if (dw_or (dt_not (dt_val (de_isi (by rfl) T.isinstance (by rfl) T.tuple (by decide +kernel) kit_tuple (de_var 0)))) (dw_or1 (dt_cmp (op_eqD (hu64 hr)) os_eq (de_var 0) (de_tup da_nil) (nomark _)))).dt
  (dss_one (ds_ret de_bl))
  dss_nil)
  (dss_cons (ds_for PassesOwn.never rfl (di_seq (de_var 0)) (dg_name (i := 2) sc_is_box.nd rfl (.inl rfl))
  (dss_cons (ds_if (dt_not (dt_val (de_call (ok_is_tuple_of T) (hr.mono (by first | decide | omega)) (by rfl) T.d_is_tuple_of.gl T.d_is_tuple_of.fn.kp T.d_is_tuple_of.bd (da_cons (de_var 2) (da_cons (de_len (by rfl) T.len (de_var 1)) da_nil)))))
  (dss_one (ds_ret de_bl))
  dss_nil)
  (dss_one (ds_for PassesOwn.never rfl (di_seq (de_var 2)) (dg_name (i := 3) sc_is_box.nd rfl (.inl rfl))
  (dss_one (ds_if (dw_or (dt_not (dt_val (de_call (ok_is_tuple_of T) (hr.mono (by first | decide | omega)) (by rfl) T.d_is_tuple_of.gl T.d_is_tuple_of.fn.kp T.d_is_tuple_of.bd (da_cons (de_var 3) (da_cons de_int da_nil))))) (dw_or (dt_not (dt_val (de_call (ok_is_sign T) (hr.mono (by first | decide | omega)) (by rfl) T.d_is_sign.gl T.d_is_sign.fn.kp T.d_is_sign.bd (da_cons (de_ixA (de_var 3) de_int) da_nil)))) (dw_or1 (dt_not (dt_val (de_call (ok_is_below T) (hr.mono (by first | decide | omega)) (by rfl) T.d_is_below.gl T.d_is_below.fn.kp T.d_is_below.bd (da_cons (de_ixA (de_var 3) de_int) (da_cons (de_len (by rfl) T.len (de_var 0)) da_nil)))))))).dt
  (dss_one (ds_ret de_bl))
  dss_nil))))))
  (dss_one (ds_ret de_bl))))

theorem ok_answer_from (T : Tx K mg) : FnD P w K mg base 1 T.f_answer_from T.fd_answer_from ["box", "signs", "state", "row"] F_answer_from :=
  fn_d (k := 0) (N := N_answer_from) T.d_answer_from.fn sc_answer_from fun cdv A outer s H E hr =>
  (dss_cons (ds_set (i := 4) sc_answer_from.nd rfl (.inl rfl) (de_str []))
  (dss_cons (ds_for PassesOwn.never rfl (di_str (de_var 3)) (dg_name (i := 5) sc_answer_from.nd rfl (.inl rfl))
  (dss_cons (ds_asg (de_ixA (de_ixA (de_var 0) (de_var 2)) (de_indexS (de_var 1) (de_var 5) (hu65 hr))) (dg_tup rfl (dgs_cons (dg_name (i := 6) sc_answer_from.nd rfl (.inl rfl)) (dgs_cons (dg_name (i := 2) sc_answer_from.nd rfl (.inl rfl)) dgs_nil))))
  (dss_one (ds_set (i := 4) sc_answer_from.nd rfl (.inl rfl) (de_add (de_var 4) (de_var 6))))))
  (dss_one (ds_ret (de_tup (da_cons (de_var 4) (da_cons (de_var 2) da_nil)))))))

theorem ok_box_answer (T : Tx K mg) : FnD P w K mg base 2 T.f_box_answer T.fd_box_answer ["box", "signs", "row"] F_box_answer :=
  fn_d (k := 1) (N := N_box_answer) T.d_box_answer.fn sc_box_answer fun cdv A outer s H E hr =>
  (dss_one (ds_ret (de_ixA (de_call (ok_answer_from T) (hr.mono (by first | decide | omega)) (by rfl) T.d_answer_from.gl T.d_answer_from.fn.kp T.d_answer_from.bd (da_cons (de_var 0) (da_cons (de_var 1) (da_cons de_int (da_cons (de_var 2) da_nil))))) de_int)))

theorem ok_as_stepping (T : Tx K mg) : FnD P w K mg base 1 T.f_as_stepping T.fd_as_stepping ["box", "signs"] F_as_stepping :=
  fn_d (k := 0) (N := N_as_stepping) T.d_as_stepping.fn sc_as_stepping fun cdv A outer s H E hr =>
  (dss_cons (ds_set (i := 2) sc_as_stepping.nd rfl (.inl rfl) (de_new da_nil))
  (dss_cons (ds_for PassesOwn.never rfl (di_seq (de_var 0)) (dg_name (i := 3) sc_as_stepping.nd rfl (.inr rfl))
  (dss_one (ds_expr (de_app (de_var 2) (de_tup (da_cons (de_tuple (by rfl) T.tuple (de_lc (own := [("k", 4)]) rfl sc_as_stepping.nd (di_rng1 (by rfl) T.range (de_len (by rfl) T.len (de_var 1))) (blkOk_by (N := N_as_stepping) (sc := defScope s_as_stepping) (by decide +kernel)) (fun _ _ _ _ _ => (dg_name (i := 4) sc_as_stepping.nd rfl (.inl rfl))) (fun _ _ _ _ _ => dts_nil) (fun _ _ _ _ _ => (de_tup (da_cons (de_ixA (de_var 1) (de_var 4)) (da_cons (de_ixA (de_ixA (de_var 3) (de_var 4)) de_int) (da_cons (de_ixA (de_ixA (de_var 3) (de_var 4)) de_int) da_nil))))))) (da_cons (de_str []) da_nil)))))))
  (dss_one (ds_ret (de_tup (da_cons (de_str []) (da_cons (de_tuple (by rfl) T.tuple (de_var 2)) da_nil)))))))

theorem ok__law_draws (T : Tx K mg) : FnD P w K mg base 1 T.f__law_draws T.fd__law_draws ["script", "many"] F__law_draws :=
  fn_d (k := 0) (N := N__law_draws) T.d__law_draws.fn sc__law_draws fun cdv A outer s H E hr =>
  (dss_cons (ds_set (i := 2) sc__law_draws.nd rfl (.inl rfl) (de_new da_nil))
  (dss_cons (ds_set (i := 3) sc__law_draws.nd rfl (.inl rfl) de_int)
  (dss_cons (ds_for PassesOwn.never rfl (di_rng1 (by rfl) T.range (de_len (by rfl) T.len (de_var 0))) (dg_name (i := 4) sc__law_draws.nd rfl (.inl rfl))
  (dss_cons (ds_set (i := 5) sc__law_draws.nd rfl (.inl rfl) (de_abs (by rfl) T.abs (de_int1 (by rfl) T.int (de_ixA (de_var 0) (de_var 4)))))
  (dss_cons (ds_set (i := 3) sc__law_draws.nd rfl (.inl rfl) (de_mod (de_int1 (by rfl) T.int (de_add (de_add (de_mul (de_var 3) de_int) (de_mod (de_var 5) de_int)) (de_var 4))) de_int))
  (dss_cons (ds_set (i := 6) sc__law_draws.nd rfl (.inl rfl) de_int)
  (dss_cons (ds_if (dt_cmp (op_ge) (os_ii0 fun _ a b => .bl _) (de_var 5) (de_pow de_int de_int) (nomark _))
  (dss_one (ds_set (i := 6) sc__law_draws.nd rfl (.inl rfl) (de_var 5)))
  (dss_cons (ds_expr (de_app (de_var 2) (de_mod (de_int1 (by rfl) T.int (de_var 5)) de_int)))
  (dss_one (ds_expr (de_app (de_var 2) (de_mod (de_mod (de_int1 (by rfl) T.int (de_add (de_mul (de_var 3) de_int) de_int)) de_int) de_int))))))
  (dss_one (ds_for PassesOwn.never rfl (di_rng1 (by rfl) T.range de_int) (dg_name (i := 7) sc__law_draws.nd rfl (.inl rfl))
  (dss_one (ds_if (dt_cmp (op_gt) (os_ii0 fun _ a b => .bl _) (de_var 6) de_int (nomark _))
  (dss_cons (ds_expr (de_app (de_var 2) (de_mod (de_int1 (by rfl) T.int (de_var 6)) de_int)))
  (dss_one (ds_set (i := 6) sc__law_draws.nd rfl (.inl rfl) (de_fdiv (de_var 6) de_int))))
  dss_nil)))))))))
  (dss_cons (ds_for PassesOwn.never rfl (di_rng1 (by rfl) T.range (de_var 1)) (dg_name (i := 4) sc__law_draws.nd rfl (.inl rfl))
  (dss_cons (ds_set (i := 3) sc__law_draws.nd rfl (.inl rfl) (de_mod (de_int1 (by rfl) T.int (de_add (de_add (de_mul (de_var 3) de_int) (de_var 4)) de_int)) de_int))
  (dss_one (ds_expr (de_app (de_var 2) (de_mod (de_int1 (by rfl) T.int (de_var 3)) de_int))))))
  (dss_one (ds_ret (de_cut (de_var 2) dp_none (dp_some (de_var 1)))))))))

theorem ok__law_next (T : Tx K mg) : FnD P w K mg base 1 T.f__law_next T.fd__law_next ["w", "many"] F__law_next :=
  fn_d (k := 0) (N := N__law_next) T.d__law_next.fn sc__law_next fun cdv A outer s H E hr =>
  (dss_cons (ds_daug (hu_of hr) (de_var 0) (de_str [97, 116]) de_int)
  (dss_cons (ds_if (dt_cmp (op_gt) (os_ii0 fun _ a b => .bl _) (de_sub2 (hu_of hr) (de_var 0) (de_str [97, 116])) (de_len (by rfl) T.len (de_sub2 (hu_of hr) (de_var 0) (de_str [100, 114, 97, 119, 115]))) (nomark _))
  (dss_one (ds_ret de_int))
  dss_nil)
  (dss_one (ds_ret (de_mod (de_int1 (by rfl) T.int (de_ixA (de_sub2 (hu_of hr) (de_var 0) (de_str [100, 114, 97, 119, 115])) (de_sub (de_sub2 (hu_of hr) (de_var 0) (de_str [97, 116])) de_int))) (de_var 1))))))

theorem ok__law_pick (T : Tx K mg) : FnD P w K mg base 2 T.f__law_pick T.fd__law_pick ["w", "rows"] F__law_pick :=
  fn_d (k := 1) (N := N__law_pick) T.d__law_pick.fn sc__law_pick fun cdv A outer s H E hr =>
  (dss_one (ds_ret (de_ixA (de_var 1) (de_call (ok__law_next T) (hr.mono (by first | decide | omega)) (by rfl) T.d__law_next.gl T.d__law_next.fn.kp T.d__law_next.bd (da_cons (de_var 0) (da_cons (de_len (by rfl) T.len (de_var 1)) da_nil))))))

theorem ok__law_alike (T : Tx K mg) : ∀ n : Nat, FnD P w K mg base (1 + n) T.f__law_alike T.fd__law_alike ["told", "due"] (F__law_alike n)
  | 0 => fn_none
  | n + 1 => by
    have ih := ok__law_alike T n
    exact fn_d (k := 1 + n) (N := N__law_alike) T.d__law_alike.fn sc__law_alike fun cdv A outer s H E hr =>
  (dss_cons (ds_if (dt_val (de_isi (by rfl) T.isinstance (by rfl) T.tuple (by decide +kernel) kit_tuple (de_var 1)))
  (dss_cons (ds_if (dw_or (dt_not (dt_val (de_isi (by rfl) T.isinstance (by rfl) T.tuple (by decide +kernel) kit_tuple (de_var 0)))) (dw_or1 (dt_cmp (op_neD (hu64 hr)) os_ne (de_len (by rfl) T.len (de_var 0)) (de_len (by rfl) T.len (de_var 1)) (nomark _)))).dt
  (dss_one (ds_ret de_bl))
  dss_nil)
  (dss_one (ds_ret (de_cmp (op_eqD (hu64 hr)) os_eq (de_lc (own := [("k", 2)]) rfl sc__law_alike.nd (di_rng1 (by rfl) T.range (de_len (by rfl) T.len (de_var 1))) (blkOk_by (N := N__law_alike) (sc := defScope s__law_alike) (by decide +kernel)) (fun _ _ _ _ _ => (dg_name (i := 2) sc__law_alike.nd rfl (.inl rfl))) (fun _ _ _ _ _ => (dts_one (dt_not (dt_val (de_call ih (hr.mono (by omega)) (by rfl) T.d__law_alike.gl T.d__law_alike.fn.kp T.d__law_alike.bd (da_cons (de_ixA (de_var 0) (de_var 2)) (da_cons (de_ixA (de_var 1) (de_var 2)) da_nil))))))) (fun _ _ _ _ _ => (de_var 2))) (de_lst da_nil) (nomark _)))))
  dss_nil)
  (dss_cons (ds_if (dt_cmp (op_isN) os_isN (de_var 1) de_non (nomark _))
  (dss_one (ds_ret (de_cmp (op_isN) os_isN (de_var 0) de_non (nomark _))))
  dss_nil)
  (dss_cons (ds_if (dt_val (de_isi (by rfl) T.isinstance (by rfl) T.bool (by decide +kernel) kit_bool (de_var 1)))
  (dss_one (ds_ret (de_and (de_isi (by rfl) T.isinstance (by rfl) T.bool (by decide +kernel) kit_bool (de_var 0)) (de_one (de_cmp (op_eqD (hu64 hr)) os_eq (de_var 0) (de_var 1) (nomark _))))))
  dss_nil)
  (dss_cons (ds_if (dt_val (de_isi (by rfl) T.isinstance (by rfl) T.int (by decide +kernel) kit_int (de_var 1)))
  (dss_one (ds_ret (de_and (de_isi (by rfl) T.isinstance (by rfl) T.int (by decide +kernel) kit_int (de_var 0)) (de_and (de_not (de_isi (by rfl) T.isinstance (by rfl) T.bool (by decide +kernel) kit_bool (de_var 0))) (de_one (de_cmp (op_eqD (hu64 hr)) os_eq (de_var 0) (de_var 1) (nomark _)))))))
  dss_nil)
  (dss_one (ds_ret (de_and (de_isi (by rfl) T.isinstance (by rfl) T.str (by decide +kernel) kit_str (de_var 0)) (de_one (de_cmp (op_eqD (hu64 hr)) os_eq (de_var 0) (de_var 1) (nomark _))))))))))

theorem ok__law_box (T : Tx K mg) : FnD P w K mg base 3 T.f__law_box T.fd__law_box ["w", "signs", "most"] F__law_box :=
  fn_d (k := 2) (N := N__law_box) T.d__law_box.fn sc__law_box fun cdv A outer s H E hr =>
  (dss_cons (ds_set (i := 3) sc__law_box.nd rfl (.inr rfl) (de_add de_int (de_call (ok__law_next T) (hr.mono (by first | decide | omega)) (by rfl) T.d__law_next.gl T.d__law_next.fn.kp T.d__law_next.bd (da_cons (de_var 0) (da_cons (de_var 2) da_nil)))))
  (dss_cons (ds_set (i := 4) sc__law_box.nd rfl (.inr rfl) (de_call (ok__law_pick T) (hr.mono (by first | decide | omega)) (by rfl) T.d__law_pick.gl T.d__law_pick.fn.kp T.d__law_pick.bd (da_cons (de_var 0) (da_cons (de_lst (da_cons (de_str [120, 121]) (da_cons (de_str [120, 121]) (da_cons (de_str [120]) (da_cons (de_str [120, 121, 122]) da_nil))))) da_nil))))
  (dss_one (ds_ret (de_tuple (by rfl) T.tuple (de_lc (own := [("s", 5)]) rfl sc__law_box.nd (di_rng1 (by rfl) T.range (de_var 3)) (blkOk_by (N := N__law_box) (sc := defScope s__law_box) (by decide +kernel)) (fun _ _ _ _ _ => (dg_name (i := 5) sc__law_box.nd rfl (.inl rfl))) (fun _ _ _ _ _ => dts_nil) (fun _ _ _ _ _ => (de_tuple (by rfl) T.tuple (de_lc (own := [("sign", 6)]) rfl sc__law_box.nd (di_str (de_var 1)) (blkOk_by (by rfl)) (fun _ _ _ _ _ => (dg_name (i := 6) sc__law_box.nd rfl (.inl rfl))) (fun _ _ _ _ _ => dts_nil) (fun _ _ _ _ _ => (de_tup (da_cons (de_call (ok__law_pick T) (hr.mono (by first | decide | omega)) (by rfl) T.d__law_pick.gl T.d__law_pick.fn.kp T.d__law_pick.bd (da_cons (de_var 0) (da_cons (de_var 4) da_nil))) (da_cons (de_call (ok__law_next T) (hr.mono (by first | decide | omega)) (by rfl) T.d__law_next.gl T.d__law_next.fn.kp T.d__law_next.bd (da_cons (de_var 0) (da_cons (de_var 3) da_nil))) da_nil)))))))))))))

theorem ok__law_from (T : Tx K mg) : FnD P w K mg base 1 T.f__law_from T.fd__law_from ["box", "signs", "state", "row"] F__law_from :=
  fn_d (k := 0) (N := N__law_from) T.d__law_from.fn sc__law_from fun cdv A outer s H E hr =>
  (dss_cons (ds_set (i := 4) sc__law_from.nd rfl (.inl rfl) (de_str []))
  (dss_cons (ds_for PassesOwn.never rfl (di_str (de_var 3)) (dg_name (i := 5) sc__law_from.nd rfl (.inl rfl))
  (dss_cons (ds_asg (de_ixA (de_ixA (de_var 0) (de_var 2)) (de_indexS (de_var 1) (de_var 5) (hu65 hr))) (dg_tup rfl (dgs_cons (dg_name (i := 6) sc__law_from.nd rfl (.inl rfl)) (dgs_cons (dg_name (i := 2) sc__law_from.nd rfl (.inl rfl)) dgs_nil))))
  (dss_one (ds_set (i := 4) sc__law_from.nd rfl (.inl rfl) (de_add (de_var 4) (de_var 6))))))
  (dss_one (ds_ret (de_tup (da_cons (de_var 4) (da_cons (de_var 2) da_nil)))))))

theorem ok__law_is_pair (T : Tx K mg) : FnD P w K mg base 1 T.f__law_is_pair T.fd__law_is_pair ["pair", "many"] F__law_is_pair :=
  fn_d (k := 0) (N := N__law_is_pair) T.d__law_is_pair.fn sc__law_is_pair fun cdv A outer s H E hr =>
  (dss_cons (ds_if (dw_or (dt_not (dt_val (de_isi (by rfl) T.isinstance (by rfl) T.tuple (by decide +kernel) kit_tuple (de_var 0)))) (dw_or (dt_cmp (op_neD (hu64 hr)) os_ne (de_len (by rfl) T.len (de_var 0)) de_int (nomark _)) (dw_or (dt_not (dt_val (de_isi (by rfl) T.isinstance (by rfl) T.str (by decide +kernel) kit_str (de_ixA (de_var 0) de_int)))) (dw_or1 (dt_cmp (op_neD (hu64 hr)) os_ne (de_len (by rfl) T.len (de_ixA (de_var 0) de_int)) de_int (nomark _)))))).dt
  (dss_one (ds_ret de_bl))
  dss_nil)
  (dss_cons (ds_if (dw_or (dt_cmp (op_notInA (hu65 hr)) os_notIn (de_ixA (de_var 0) de_int) (de_str [97, 98, 99, 100, 101, 102, 103, 104, 105, 106, 107, 108, 109, 110, 111, 112, 113, 114, 115, 116, 117, 118, 119, 120, 121, 122]) rfl) (dw_or (dt_not (dt_val (de_isi (by rfl) T.isinstance (by rfl) T.int (by decide +kernel) kit_int (de_ixA (de_var 0) de_int)))) (dw_or1 (dt_val (de_isi (by rfl) T.isinstance (by rfl) T.bool (by decide +kernel) kit_bool (de_ixA (de_var 0) de_int)))))).dt
  (dss_one (ds_ret de_bl))
  dss_nil)
  (dss_one (ds_ret (de_chain (op_le) (os_ii0 fun _ a b => .bl _) ((op_lt.or op_lt_str)) os_lt de_int (de_ixA (de_var 0) de_int) (de_var 1))))))

theorem ok__law_is_box (T : Tx K mg) : FnD P w K mg base 2 T.f__law_is_box T.fd__law_is_box ["thing", "signs"] F__law_is_box :=
  fn_d (k := 1) (N := N__law_is_box) T.d__law_is_box.fn sc__law_is_box fun cdv A outer s H E hr =>
  (dss_cons (ds_if (dw_or (dt_not (dt_val (de_isi (by rfl) T.isinstance (by rfl) T.tuple (by decide +kernel) kit_tuple (de_var 0)))) (dw_or1 (dt_cmp (op_eqD (hu64 hr)) os_eq (de_var 0) (de_tup da_nil) (nomark _)))).dt
  (dss_one (ds_ret de_bl))
  dss_nil)
  (dss_cons (ds_for PassesOwn.never rfl (di_seq (de_var 0)) (dg_name (i := 2) sc__law_is_box.nd rfl (.inl rfl))
  (dss_cons (ds_if (dw_or (dt_not (dt_val (de_isi (by rfl) T.isinstance (by rfl) T.tuple (by decide +kernel) kit_tuple (de_var 2)))) (dw_or1 (dt_cmp (op_neD (hu64 hr)) os_ne (de_len (by rfl) T.len (de_var 2)) (de_len (by rfl) T.len (de_var 1)) (nomark _)))).dt
  (dss_one (ds_ret de_bl))
  dss_nil)
  (dss_one (ds_if (dt_cmp (op_neD (hu64 hr)) os_ne (de_lc (own := [("pair", 3)]) rfl sc__law_is_box.nd (di_seq (de_var 2)) (blkOk_by (N := N__law_is_box) (sc := defScope s__law_is_box) (by decide +kernel)) (fun _ _ _ _ _ => (dg_name (i := 3) sc__law_is_box.nd rfl (.inl rfl))) (fun _ _ _ _ _ => (dts_one (dt_not (dt_val (de_call (ok__law_is_pair T) (hr.mono (by first | decide | omega)) (by rfl) T.d__law_is_pair.gl T.d__law_is_pair.fn.kp T.d__law_is_pair.bd (da_cons (de_var 3) (da_cons (de_len (by rfl) T.len (de_var 0)) da_nil))))))) (fun _ _ _ _ _ => (de_var 3))) (de_lst da_nil) (nomark _))
  (dss_one (ds_ret de_bl))
  dss_nil))))
  (dss_one (ds_ret de_bl))))

theorem ok__law_bent (T : Tx K mg) : FnD P w K mg base 3 T.f__law_bent T.fd__law_bent ["w", "box"] F__law_bent :=
  fn_d (k := 2) (N := N__law_bent) T.d__law_bent.fn sc__law_bent fun cdv A outer s H E hr =>
  (dss_cons (ds_set (i := 2) sc__law_bent.nd rfl (.inl rfl) (de_call (ok__law_next T) (hr.mono (by first | decide | omega)) (by rfl) T.d__law_next.gl T.d__law_next.fn.kp T.d__law_next.bd (da_cons (de_var 0) (da_cons (de_len (by rfl) T.len (de_var 1)) da_nil))))
  (dss_cons (ds_set (i := 3) sc__law_bent.nd rfl (.inl rfl) (de_ixA (de_var 1) (de_var 2)))
  (dss_cons (ds_set (i := 4) sc__law_bent.nd rfl (.inl rfl) (de_lst (da_cons (de_tup (da_cons (de_str [120]) (da_cons de_int da_nil))) (da_cons (de_tup (da_cons (de_str [120]) (da_cons (de_len (by rfl) T.len (de_var 1)) da_nil))) (da_cons (de_tup (da_cons (de_str [120]) (da_cons (de_neg de_int) da_nil))) (da_cons (de_tup (da_cons (de_str [88]) (da_cons de_int da_nil))) (da_cons (de_tup (da_cons (de_str []) (da_cons de_int da_nil))) (da_cons (de_tup (da_cons (de_str [120, 121]) (da_cons de_int da_nil))) (da_cons (de_tup (da_cons (de_str [120]) (da_cons de_bl da_nil))) (da_cons (de_tup (da_cons (de_str [120]) da_nil)) (da_cons de_int (da_cons (de_lst (da_cons (de_str [120]) (da_cons de_int da_nil))) (da_cons (de_tup (da_cons de_int (da_cons (de_str [120]) da_nil))) da_nil)))))))))))))
  (dss_cons (ds_if (dw_or (dt_cmp (op_eqD (hu64 hr)) os_eq (de_var 3) (de_tup da_nil) (nomark _)) (dw_or1 (dt_cmp (op_eqD (hu64 hr)) os_eq (de_call (ok__law_next T) (hr.mono (by first | decide | omega)) (by rfl) T.d__law_next.gl T.d__law_next.fn.kp T.d__law_next.bd (da_cons (de_var 0) (da_cons de_int da_nil))) de_int (nomark _)))).dt
  (dss_one (ds_ret (de_call (ok__law_pick T) (hr.mono (by first | decide | omega)) (by rfl) T.d__law_pick.gl T.d__law_pick.fn.kp T.d__law_pick.bd (da_cons (de_var 0) (da_cons (de_lst (da_cons (de_add (de_cut (de_var 1) dp_none (dp_some (de_var 2))) (de_cut (de_var 1) (dp_some (de_add (de_var 2) de_int)) dp_none)) (da_cons (de_list (by rfl) T.list (de_var 1)) (da_cons (de_add (de_var 1) (de_tup (da_cons (de_tup da_nil) da_nil))) (da_cons de_non (da_cons (de_tup da_nil) (da_cons de_int (da_cons (de_add (de_add (de_cut (de_var 1) dp_none (dp_some (de_var 2))) (de_tup (da_cons (de_list (by rfl) T.list (de_var 3)) da_nil))) (de_cut (de_var 1) (dp_some (de_add (de_var 2) de_int)) dp_none)) da_nil)))))))) da_nil)))))
  dss_nil)
  (dss_cons (ds_set (i := 5) sc__law_bent.nd rfl (.inl rfl) (de_call (ok__law_next T) (hr.mono (by first | decide | omega)) (by rfl) T.d__law_next.gl T.d__law_next.fn.kp T.d__law_next.bd (da_cons (de_var 0) (da_cons (de_len (by rfl) T.len (de_var 3)) da_nil))))
  (dss_cons (ds_set (i := 6) sc__law_bent.nd rfl (.inl rfl) (de_call (ok__law_pick T) (hr.mono (by first | decide | omega)) (by rfl) T.d__law_pick.gl T.d__law_pick.fn.kp T.d__law_pick.bd (da_cons (de_var 0) (da_cons (de_lst (da_cons (de_tup (da_cons (de_call (ok__law_pick T) (hr.mono (by first | decide | omega)) (by rfl) T.d__law_pick.gl T.d__law_pick.fn.kp T.d__law_pick.bd (da_cons (de_var 0) (da_cons (de_var 4) da_nil))) da_nil)) (da_cons (de_tup da_nil) (da_cons (de_tup (da_cons (de_ixA (de_var 3) (de_var 5)) (da_cons (de_ixA (de_var 3) (de_var 5)) da_nil))) da_nil)))) da_nil))))
  (dss_one (ds_ret (de_add (de_add (de_cut (de_var 1) dp_none (dp_some (de_var 2))) (de_tup (da_cons (de_add (de_add (de_cut (de_var 3) dp_none (dp_some (de_var 5))) (de_var 6)) (de_cut (de_var 3) (dp_some (de_add (de_var 5) de_int)) dp_none)) da_nil))) (de_cut (de_var 1) (dp_some (de_add (de_var 2) de_int)) dp_none))))))))))

theorem ok__law_stepped (T : Tx K mg) : FnD P w K mg base 1 T.f__law_stepped T.fd__law_stepped ["stepping", "row"] F__law_stepped :=
  fn_d (k := 0) (N := N__law_stepped) T.d__law_stepped.fn sc__law_stepped fun cdv A outer s H E hr =>
  (dss_cons (ds_par (i := 2) (j := 3) rfl sc__law_stepped.nd rfl rfl (by decide) rfl rfl (da_cons (de_ixA (de_var 0) de_int) (da_cons de_int da_nil)))
  (dss_cons (ds_for PassesOwn.never rfl (di_str (de_var 1)) (dg_name (i := 4) sc__law_stepped.nd rfl (.inr rfl))
  (dss_cons (ds_setLc (i := 5) (own := [("step", 7)]) rfl sc__law_stepped.nd rfl rfl (sw_true rfl rfl rfl (by decide +kernel)) (di_seq (de_ixA (de_ixA (de_ixA (de_var 0) de_int) (de_var 3)) de_int)) (blkOk_by (N := N__law_stepped) (sc := defScope s__law_stepped) (by decide +kernel)) (fun _ _ _ _ _ => (dg_name (i := 7) sc__law_stepped.nd rfl (.inl rfl))) (fun _ _ _ _ _ => (dts_one (dt_cmp (op_eqD (hu64 hr)) os_eq (de_ixA (de_var 7) de_int) (de_var 4) (nomark _)))) (fun _ _ _ _ _ => (de_var 7)))
  (dss_cons (ds_if (dt_cmp (op_neD (hu64 hr)) os_ne (de_len (by rfl) T.len (de_var 5)) de_int (nomark _))
  (dss_one (ds_ret de_non))
  dss_nil)
  (dss_cons (ds_set (i := 2) sc__law_stepped.nd rfl (.inl rfl) (de_add (de_var 2) (de_ixA (de_ixA (de_var 5) de_int) de_int)))
  (dss_one (ds_set (i := 3) sc__law_stepped.nd rfl (.inl rfl) (de_ixA (de_ixA (de_var 5) de_int) de_int)))))))
  (dss_cons (ds_set (i := 6) sc__law_stepped.nd rfl (.inl rfl) (de_ixA (de_ixA (de_ixA (de_var 0) de_int) (de_var 3)) de_int))
  (dss_one (ds_ret (de_if (dt_cmp (op_isN) os_isN (de_var 6) de_non (nomark _)) de_non (de_add (de_var 2) (de_var 6))))))))

theorem ok_law (T : Tx K mg) : FnD P w K mg base 14 T.f_law T.fd_law ["script"] F_law :=
  fn_d (k := 13) (N := N_law) T.d_law.fn sc_law fun cdv A outer s H E hr =>
  (dss_cons (ds_set (i := 1) sc_law.nd rfl (.inr rfl) (de_disp (dps_cons (de_str [100, 114, 97, 119, 115]) (de_call (ok__law_draws T) (hr.mono (by first | decide | omega)) (by rfl) T.d__law_draws.gl T.d__law_draws.fn.kp T.d__law_draws.bd (da_cons (de_var 0) (da_cons de_int da_nil))) (dps_cons (de_str [97, 116]) de_int dps_nil))))
  (dss_cons (ds_for PassesOwn.never rfl (di_rng1 (by rfl) T.range de_int) (dg_name (i := 2) sc_law.nd rfl (.inl rfl))
  (dss_cons (ds_set (i := 3) sc_law.nd rfl (.inr rfl) (de_call (ok__law_pick T) (hr.mono (by first | decide | omega)) (by rfl) T.d__law_pick.gl T.d__law_pick.fn.kp T.d__law_pick.bd (da_cons (de_var 1) (da_cons (de_lst (da_cons (de_str [97, 98]) (da_cons (de_str [97]) (da_cons (de_str [97, 98, 99]) (da_cons (de_str [98, 122]) da_nil))))) da_nil))))
  (dss_cons (ds_set (i := 4) sc_law.nd rfl (.inl rfl) (de_call (ok__law_box T) (hr.mono (by first | decide | omega)) (by rfl) T.d__law_box.gl T.d__law_box.fn.kp T.d__law_box.bd (da_cons (de_var 1) (da_cons (de_var 3) (da_cons de_int da_nil)))))
  (dss_cons (ds_set (i := 5) sc_law.nd rfl (.inl rfl) (de_call (ok_as_stepping T) (hr.mono (by first | decide | omega)) (by rfl) T.d_as_stepping.gl T.d_as_stepping.fn.kp T.d_as_stepping.bd (da_cons (de_var 4) (da_cons (de_var 3) da_nil))))
  (dss_cons (ds_for PassesOwn.never rfl (di_rng1 (by rfl) T.range de_int) (dg_name (i := 6) sc_law.nd rfl (.inl rfl))
  (dss_cons (ds_set (i := 7) sc_law.nd rfl (.inl rfl) (de_join (de_str []) (de_lc (own := [("j", 10)]) rfl sc_law.nd (di_rng1 (by rfl) T.range (de_call (ok__law_next T) (hr.mono (by first | decide | omega)) (by rfl) T.d__law_next.gl T.d__law_next.fn.kp T.d__law_next.bd (da_cons (de_var 1) (da_cons de_int da_nil)))) (blkOk_by (N := N_law) (sc := defScope s_law) (by decide +kernel)) (fun _ _ _ _ _ => (dg_name (i := 10) sc_law.nd rfl (.inl rfl))) (fun _ _ _ _ _ => dts_nil) (fun _ _ _ _ _ => (de_call (ok__law_pick T) (hr.mono (by first | decide | omega)) (by rfl) T.d__law_pick.gl T.d__law_pick.fn.kp T.d__law_pick.bd (da_cons (de_var 1) (da_cons (de_var 3) da_nil)))))))
  (dss_cons (ds_set (i := 8) sc_law.nd rfl (.inl rfl) (de_ixA (de_call (ok__law_from T) (hr.mono (by first | decide | omega)) (by rfl) T.d__law_from.gl T.d__law_from.fn.kp T.d__law_from.bd (da_cons (de_var 4) (da_cons (de_var 3) (da_cons de_int (da_cons (de_var 7) da_nil))))) de_int))
  (dss_one (ds_if (dw_or (dt_not (dt_val (de_call (ok__law_alike T 12) (hr.mono (by first | decide | omega)) (by rfl) T.d__law_alike.gl T.d__law_alike.fn.kp T.d__law_alike.bd (da_cons (de_call (ok_box_answer T) (hr.mono (by first | decide | omega)) (by rfl) T.d_box_answer.gl T.d_box_answer.fn.kp T.d_box_answer.bd (da_cons (de_var 4) (da_cons (de_var 3) (da_cons (de_var 7) da_nil)))) (da_cons (de_var 8) da_nil))))) (dw_or1 (dt_cmp (op_neD (hu64 hr)) os_ne (de_call (ok__law_stepped T) (hr.mono (by first | decide | omega)) (by rfl) T.d__law_stepped.gl T.d__law_stepped.fn.kp T.d__law_stepped.bd (da_cons (de_var 5) (da_cons (de_var 7) da_nil))) (de_var 8) (nomark _)))).dt
  (dss_one (ds_ret de_bl))
  dss_nil)))))
  (dss_cons (ds_set (i := 9) sc_law.nd rfl (.inl rfl) (de_var 4))
  (dss_one (ds_for PassesOwn.never rfl (di_rng1 (by rfl) T.range de_int) (dg_name (i := 6) sc_law.nd rfl (.inl rfl))
  (dss_cons (ds_if (dt_not (dt_val (de_call (ok__law_alike T 12) (hr.mono (by first | decide | omega)) (by rfl) T.d__law_alike.gl T.d__law_alike.fn.kp T.d__law_alike.bd (da_cons (de_call (ok_is_box T) (hr.mono (by first | decide | omega)) (by rfl) T.d_is_box.gl T.d_is_box.fn.kp T.d_is_box.bd (da_cons (de_var 9) (da_cons (de_var 3) da_nil))) (da_cons (de_call (ok__law_is_box T) (hr.mono (by first | decide | omega)) (by rfl) T.d__law_is_box.gl T.d__law_is_box.fn.kp T.d__law_is_box.bd (da_cons (de_var 9) (da_cons (de_var 3) da_nil))) da_nil)))))
  (dss_one (ds_ret de_bl))
  dss_nil)
  (dss_one (ds_set (i := 9) sc_law.nd rfl (.inl rfl) (de_call (ok__law_bent T) (hr.mono (by first | decide | omega)) (by rfl) T.d__law_bent.gl T.d__law_bent.fn.kp T.d__law_bent.bd (da_cons (de_var 1) (da_cons (de_var 4) da_nil))))))))))))))
  (dss_one (ds_ret (de_and (de_call (ok__law_alike T 12) (hr.mono (by first | decide | omega)) (by rfl) T.d__law_alike.gl T.d__law_alike.fn.kp T.d__law_alike.bd (da_cons (de_call (ok_is_box T) (hr.mono (by first | decide | omega)) (by rfl) T.d_is_box.gl T.d_is_box.fn.kp T.d_is_box.bd (da_cons (de_tup (da_cons (de_tup da_nil) da_nil)) (da_cons (de_str []) da_nil))) (da_cons de_bl da_nil))) (de_one (de_call (ok__law_alike T 12) (hr.mono (by first | decide | omega)) (by rfl) T.d__law_alike.gl T.d__law_alike.fn.kp T.d__law_alike.bd (da_cons (de_call (ok_is_box T) (hr.mono (by first | decide | omega)) (by rfl) T.d_is_box.gl T.d_is_box.fn.kp T.d_is_box.bd (da_cons (de_tup da_nil) (da_cons (de_str [97]) da_nil))) (da_cons de_bl da_nil)))))))))

end
theorem all_mk {P : Program} {w : World} {K : PySem.W.Frag} {h : Heap} {mg : Str → Option Value} {fa f0 f1 f2 f3 f4 f5 f6 f7 f8 f9 f10 f11 f12 f13 f14 f15 f16 f17 : Addr} (X : K.In h) (G : h.Ns mainGlobals mg) (hfa : mg "law" = some (.ref fa))
    {od0 an0 od1 an1 od2 an2 od3 an3 od4 an4 od5 an5 od6 an6 od7 an7 od8 an8 od9 an9 od10 an10 od11 an11 od12 an12 od13 an13 od14 an14 od15 an15 od16 an16 od17 an17 : Option Addr} {sl0 sl1 sl2 sl3 sl4 sl5 sl6 sl7 sl8 sl9 sl10 sl11 sl12 sl13 sl14 sl15 sl16 sl17 : Array (Option Value)} {oc0 kV0 dc0 pm0 cd0 ct0 oc1 kV1 dc1 pm1 cd1 ct1 oc2 kV2 dc2 pm2 cd2 ct2 oc3 kV3 dc3 pm3 cd3 ct3 oc4 kV4 dc4 pm4 cd4 ct4 oc5 kV5 dc5 pm5 cd5 ct5 oc6 kV6 dc6 pm6 cd6 ct6 oc7 kV7 dc7 pm7 cd7 ct7 oc8 kV8 dc8 pm8 cd8 ct8 oc9 kV9 dc9 pm9 cd9 ct9 oc10 kV10 dc10 pm10 cd10 ct10 oc11 kV11 dc11 pm11 cd11 ct11 oc12 kV12 dc12 pm12 cd12 ct12 oc13 kV13 dc13 pm13 cd13 ct13 oc14 kV14 dc14 pm14 cd14 ct14 oc15 kV15 dc15 pm15 cd15 ct15 oc16 kV16 dc16 pm16 cd16 ct16 oc17 kV17 dc17 pm17 cd17 ct17 : Value} {tk_LETTERS : Tok}
    (a0 : PySem.W.nsIn K mainGlobals "is_below" = some (some (.ref f0))) (l0 : K.lookup f0 = some ⟨oc0, od0, .func (PySem.W.fnOf "is_below" "is_below" (defArgs s_is_below) (defBody s_is_below) (defScope s_is_below) .none kV0 dc0 pm0 an0 cd0 ct0), sl0⟩) (c0 : PySem.W.codeIn K cd0 "is_below" = true) (k0 : PySem.W.keepIn K (.ref f0) = true)
    (a1 : PySem.W.nsIn K mainGlobals "is_sign" = some (some (.ref f1))) (l1 : K.lookup f1 = some ⟨oc1, od1, .func (PySem.W.fnOf "is_sign" "is_sign" (defArgs s_is_sign) (defBody s_is_sign) (defScope s_is_sign) .none kV1 dc1 pm1 an1 cd1 ct1), sl1⟩) (c1 : PySem.W.codeIn K cd1 "is_sign" = true) (k1 : PySem.W.keepIn K (.ref f1) = true)
    (a2 : PySem.W.nsIn K mainGlobals "is_tuple_of" = some (some (.ref f2))) (l2 : K.lookup f2 = some ⟨oc2, od2, .func (PySem.W.fnOf "is_tuple_of" "is_tuple_of" (defArgs s_is_tuple_of) (defBody s_is_tuple_of) (defScope s_is_tuple_of) .none kV2 dc2 pm2 an2 cd2 ct2), sl2⟩) (c2 : PySem.W.codeIn K cd2 "is_tuple_of" = true) (k2 : PySem.W.keepIn K (.ref f2) = true)
    (a3 : PySem.W.nsIn K mainGlobals "is_box" = some (some (.ref f3))) (l3 : K.lookup f3 = some ⟨oc3, od3, .func (PySem.W.fnOf "is_box" "is_box" (defArgs s_is_box) (defBody s_is_box) (defScope s_is_box) .none kV3 dc3 pm3 an3 cd3 ct3), sl3⟩) (c3 : PySem.W.codeIn K cd3 "is_box" = true) (k3 : PySem.W.keepIn K (.ref f3) = true)
    (a4 : PySem.W.nsIn K mainGlobals "answer_from" = some (some (.ref f4))) (l4 : K.lookup f4 = some ⟨oc4, od4, .func (PySem.W.fnOf "answer_from" "answer_from" (defArgs s_answer_from) (defBody s_answer_from) (defScope s_answer_from) .none kV4 dc4 pm4 an4 cd4 ct4), sl4⟩) (c4 : PySem.W.codeIn K cd4 "answer_from" = true) (k4 : PySem.W.keepIn K (.ref f4) = true)
    (a5 : PySem.W.nsIn K mainGlobals "box_answer" = some (some (.ref f5))) (l5 : K.lookup f5 = some ⟨oc5, od5, .func (PySem.W.fnOf "box_answer" "box_answer" (defArgs s_box_answer) (defBody s_box_answer) (defScope s_box_answer) .none kV5 dc5 pm5 an5 cd5 ct5), sl5⟩) (c5 : PySem.W.codeIn K cd5 "box_answer" = true) (k5 : PySem.W.keepIn K (.ref f5) = true)
    (a6 : PySem.W.nsIn K mainGlobals "as_stepping" = some (some (.ref f6))) (l6 : K.lookup f6 = some ⟨oc6, od6, .func (PySem.W.fnOf "as_stepping" "as_stepping" (defArgs s_as_stepping) (defBody s_as_stepping) (defScope s_as_stepping) .none kV6 dc6 pm6 an6 cd6 ct6), sl6⟩) (c6 : PySem.W.codeIn K cd6 "as_stepping" = true) (k6 : PySem.W.keepIn K (.ref f6) = true)
    (a7 : PySem.W.nsIn K mainGlobals "_law_draws" = some (some (.ref f7))) (l7 : K.lookup f7 = some ⟨oc7, od7, .func (PySem.W.fnOf "_law_draws" "_law_draws" (defArgs s__law_draws) (defBody s__law_draws) (defScope s__law_draws) .none kV7 dc7 pm7 an7 cd7 ct7), sl7⟩) (c7 : PySem.W.codeIn K cd7 "_law_draws" = true) (k7 : PySem.W.keepIn K (.ref f7) = true)
    (a8 : PySem.W.nsIn K mainGlobals "_law_next" = some (some (.ref f8))) (l8 : K.lookup f8 = some ⟨oc8, od8, .func (PySem.W.fnOf "_law_next" "_law_next" (defArgs s__law_next) (defBody s__law_next) (defScope s__law_next) .none kV8 dc8 pm8 an8 cd8 ct8), sl8⟩) (c8 : PySem.W.codeIn K cd8 "_law_next" = true) (k8 : PySem.W.keepIn K (.ref f8) = true)
    (a9 : PySem.W.nsIn K mainGlobals "_law_pick" = some (some (.ref f9))) (l9 : K.lookup f9 = some ⟨oc9, od9, .func (PySem.W.fnOf "_law_pick" "_law_pick" (defArgs s__law_pick) (defBody s__law_pick) (defScope s__law_pick) .none kV9 dc9 pm9 an9 cd9 ct9), sl9⟩) (c9 : PySem.W.codeIn K cd9 "_law_pick" = true) (k9 : PySem.W.keepIn K (.ref f9) = true)
    (a10 : PySem.W.nsIn K mainGlobals "_law_alike" = some (some (.ref f10))) (l10 : K.lookup f10 = some ⟨oc10, od10, .func (PySem.W.fnOf "_law_alike" "_law_alike" (defArgs s__law_alike) (defBody s__law_alike) (defScope s__law_alike) .none kV10 dc10 pm10 an10 cd10 ct10), sl10⟩) (c10 : PySem.W.codeIn K cd10 "_law_alike" = true) (k10 : PySem.W.keepIn K (.ref f10) = true)
    (a11 : PySem.W.nsIn K mainGlobals "_law_box" = some (some (.ref f11))) (l11 : K.lookup f11 = some ⟨oc11, od11, .func (PySem.W.fnOf "_law_box" "_law_box" (defArgs s__law_box) (defBody s__law_box) (defScope s__law_box) .none kV11 dc11 pm11 an11 cd11 ct11), sl11⟩) (c11 : PySem.W.codeIn K cd11 "_law_box" = true) (k11 : PySem.W.keepIn K (.ref f11) = true)
    (a12 : PySem.W.nsIn K mainGlobals "_law_from" = some (some (.ref f12))) (l12 : K.lookup f12 = some ⟨oc12, od12, .func (PySem.W.fnOf "_law_from" "_law_from" (defArgs s__law_from) (defBody s__law_from) (defScope s__law_from) .none kV12 dc12 pm12 an12 cd12 ct12), sl12⟩) (c12 : PySem.W.codeIn K cd12 "_law_from" = true) (k12 : PySem.W.keepIn K (.ref f12) = true)
    (a13 : PySem.W.nsIn K mainGlobals "_law_is_pair" = some (some (.ref f13))) (l13 : K.lookup f13 = some ⟨oc13, od13, .func (PySem.W.fnOf "_law_is_pair" "_law_is_pair" (defArgs s__law_is_pair) (defBody s__law_is_pair) (defScope s__law_is_pair) .none kV13 dc13 pm13 an13 cd13 ct13), sl13⟩) (c13 : PySem.W.codeIn K cd13 "_law_is_pair" = true) (k13 : PySem.W.keepIn K (.ref f13) = true)
    (a14 : PySem.W.nsIn K mainGlobals "_law_is_box" = some (some (.ref f14))) (l14 : K.lookup f14 = some ⟨oc14, od14, .func (PySem.W.fnOf "_law_is_box" "_law_is_box" (defArgs s__law_is_box) (defBody s__law_is_box) (defScope s__law_is_box) .none kV14 dc14 pm14 an14 cd14 ct14), sl14⟩) (c14 : PySem.W.codeIn K cd14 "_law_is_box" = true) (k14 : PySem.W.keepIn K (.ref f14) = true)
    (a15 : PySem.W.nsIn K mainGlobals "_law_bent" = some (some (.ref f15))) (l15 : K.lookup f15 = some ⟨oc15, od15, .func (PySem.W.fnOf "_law_bent" "_law_bent" (defArgs s__law_bent) (defBody s__law_bent) (defScope s__law_bent) .none kV15 dc15 pm15 an15 cd15 ct15), sl15⟩) (c15 : PySem.W.codeIn K cd15 "_law_bent" = true) (k15 : PySem.W.keepIn K (.ref f15) = true)
    (a16 : PySem.W.nsIn K mainGlobals "_law_stepped" = some (some (.ref f16))) (l16 : K.lookup f16 = some ⟨oc16, od16, .func (PySem.W.fnOf "_law_stepped" "_law_stepped" (defArgs s__law_stepped) (defBody s__law_stepped) (defScope s__law_stepped) .none kV16 dc16 pm16 an16 cd16 ct16), sl16⟩) (c16 : PySem.W.codeIn K cd16 "_law_stepped" = true) (k16 : PySem.W.keepIn K (.ref f16) = true)
    (a17 : PySem.W.nsIn K mainGlobals "law" = some (some (.ref f17))) (l17 : K.lookup f17 = some ⟨oc17, od17, .func (PySem.W.fnOf "law" "law" (defArgs s_law) (defBody s_law) (defScope s_law) .none kV17 dc17 pm17 an17 cd17 ct17), sl17⟩) (c17 : PySem.W.codeIn K cd17 "law" = true) (k17 : PySem.W.keepIn K (.ref f17) = true)
    (z_abs : PySem.W.nsIn K mainGlobals "abs" = some none)
    (z_bool : PySem.W.nsIn K mainGlobals "bool" = some none)
    (z_int : PySem.W.nsIn K mainGlobals "int" = some none)
    (z_isinstance : PySem.W.nsIn K mainGlobals "isinstance" = some none)
    (z_len : PySem.W.nsIn K mainGlobals "len" = some none)
    (z_list : PySem.W.nsIn K mainGlobals "list" = some none)
    (z_range : PySem.W.nsIn K mainGlobals "range" = some none)
    (z_str : PySem.W.nsIn K mainGlobals "str" = some none)
    (z_tuple : PySem.W.nsIn K mainGlobals "tuple" = some none)
    (y_LETTERS : PySem.W.nsIn K mainGlobals "LETTERS" = some (some (.str ⟨([97, 98, 99, 100, 101, 102, 103, 104, 105, 106, 107, 108, 109, 110, 111, 112, 113, 114, 115, 116, 117, 118, 119, 120, 121, 122] : List Nat).toArray⟩ tk_LETTERS))) :
    ∃ fd : FuncData, (∀ (s : Shared) (v : Value), BindsTo s fd ⟨[v], []⟩ [("script", v)]) ∧ ∀ base : Heap, K.In base → base.Ns mainGlobals mg → FnOk P w K mg base CX0 14 fa fd ["script"] (spM K 1 F_law) := by
  have e := hfa.symm.trans (PySem.W.mg_of X G a17)
  cases e
  let T : Tx K mg := {
    f_is_below := f0,
    fd_is_below := PySem.W.fnOf "is_below" "is_below" (defArgs s_is_below) (defBody s_is_below) (defScope s_is_below) .none kV0 dc0 pm0 an0 cd0 ct0,
    d_is_below := def_mk X G a0 l0 c0 k0 fun _ _ _ _ _ _ us hl => match us, hl with | [_, _], _ => rfl,
    f_is_sign := f1,
    fd_is_sign := PySem.W.fnOf "is_sign" "is_sign" (defArgs s_is_sign) (defBody s_is_sign) (defScope s_is_sign) .none kV1 dc1 pm1 an1 cd1 ct1,
    d_is_sign := def_mk X G a1 l1 c1 k1 fun _ _ _ _ _ _ us hl => match us, hl with | [_], _ => rfl,
    f_is_tuple_of := f2,
    fd_is_tuple_of := PySem.W.fnOf "is_tuple_of" "is_tuple_of" (defArgs s_is_tuple_of) (defBody s_is_tuple_of) (defScope s_is_tuple_of) .none kV2 dc2 pm2 an2 cd2 ct2,
    d_is_tuple_of := def_mk X G a2 l2 c2 k2 fun _ _ _ _ _ _ us hl => match us, hl with | [_, _], _ => rfl,
    f_is_box := f3,
    fd_is_box := PySem.W.fnOf "is_box" "is_box" (defArgs s_is_box) (defBody s_is_box) (defScope s_is_box) .none kV3 dc3 pm3 an3 cd3 ct3,
    d_is_box := def_mk X G a3 l3 c3 k3 fun _ _ _ _ _ _ us hl => match us, hl with | [_, _], _ => rfl,
    f_answer_from := f4,
    fd_answer_from := PySem.W.fnOf "answer_from" "answer_from" (defArgs s_answer_from) (defBody s_answer_from) (defScope s_answer_from) .none kV4 dc4 pm4 an4 cd4 ct4,
    d_answer_from := def_mk X G a4 l4 c4 k4 fun _ _ _ _ _ _ us hl => match us, hl with | [_, _, _, _], _ => rfl,
    f_box_answer := f5,
    fd_box_answer := PySem.W.fnOf "box_answer" "box_answer" (defArgs s_box_answer) (defBody s_box_answer) (defScope s_box_answer) .none kV5 dc5 pm5 an5 cd5 ct5,
    d_box_answer := def_mk X G a5 l5 c5 k5 fun _ _ _ _ _ _ us hl => match us, hl with | [_, _, _], _ => rfl,
    f_as_stepping := f6,
    fd_as_stepping := PySem.W.fnOf "as_stepping" "as_stepping" (defArgs s_as_stepping) (defBody s_as_stepping) (defScope s_as_stepping) .none kV6 dc6 pm6 an6 cd6 ct6,
    d_as_stepping := def_mk X G a6 l6 c6 k6 fun _ _ _ _ _ _ us hl => match us, hl with | [_, _], _ => rfl,
    f__law_draws := f7,
    fd__law_draws := PySem.W.fnOf "_law_draws" "_law_draws" (defArgs s__law_draws) (defBody s__law_draws) (defScope s__law_draws) .none kV7 dc7 pm7 an7 cd7 ct7,
    d__law_draws := def_mk X G a7 l7 c7 k7 fun _ _ _ _ _ _ us hl => match us, hl with | [_, _], _ => rfl,
    f__law_next := f8,
    fd__law_next := PySem.W.fnOf "_law_next" "_law_next" (defArgs s__law_next) (defBody s__law_next) (defScope s__law_next) .none kV8 dc8 pm8 an8 cd8 ct8,
    d__law_next := def_mk X G a8 l8 c8 k8 fun _ _ _ _ _ _ us hl => match us, hl with | [_, _], _ => rfl,
    f__law_pick := f9,
    fd__law_pick := PySem.W.fnOf "_law_pick" "_law_pick" (defArgs s__law_pick) (defBody s__law_pick) (defScope s__law_pick) .none kV9 dc9 pm9 an9 cd9 ct9,
    d__law_pick := def_mk X G a9 l9 c9 k9 fun _ _ _ _ _ _ us hl => match us, hl with | [_, _], _ => rfl,
    f__law_alike := f10,
    fd__law_alike := PySem.W.fnOf "_law_alike" "_law_alike" (defArgs s__law_alike) (defBody s__law_alike) (defScope s__law_alike) .none kV10 dc10 pm10 an10 cd10 ct10,
    d__law_alike := def_mk X G a10 l10 c10 k10 fun _ _ _ _ _ _ us hl => match us, hl with | [_, _], _ => rfl,
    f__law_box := f11,
    fd__law_box := PySem.W.fnOf "_law_box" "_law_box" (defArgs s__law_box) (defBody s__law_box) (defScope s__law_box) .none kV11 dc11 pm11 an11 cd11 ct11,
    d__law_box := def_mk X G a11 l11 c11 k11 fun _ _ _ _ _ _ us hl => match us, hl with | [_, _, _], _ => rfl,
    f__law_from := f12,
    fd__law_from := PySem.W.fnOf "_law_from" "_law_from" (defArgs s__law_from) (defBody s__law_from) (defScope s__law_from) .none kV12 dc12 pm12 an12 cd12 ct12,
    d__law_from := def_mk X G a12 l12 c12 k12 fun _ _ _ _ _ _ us hl => match us, hl with | [_, _, _, _], _ => rfl,
    f__law_is_pair := f13,
    fd__law_is_pair := PySem.W.fnOf "_law_is_pair" "_law_is_pair" (defArgs s__law_is_pair) (defBody s__law_is_pair) (defScope s__law_is_pair) .none kV13 dc13 pm13 an13 cd13 ct13,
    d__law_is_pair := def_mk X G a13 l13 c13 k13 fun _ _ _ _ _ _ us hl => match us, hl with | [_, _], _ => rfl,
    f__law_is_box := f14,
    fd__law_is_box := PySem.W.fnOf "_law_is_box" "_law_is_box" (defArgs s__law_is_box) (defBody s__law_is_box) (defScope s__law_is_box) .none kV14 dc14 pm14 an14 cd14 ct14,
    d__law_is_box := def_mk X G a14 l14 c14 k14 fun _ _ _ _ _ _ us hl => match us, hl with | [_, _], _ => rfl,
    f__law_bent := f15,
    fd__law_bent := PySem.W.fnOf "_law_bent" "_law_bent" (defArgs s__law_bent) (defBody s__law_bent) (defScope s__law_bent) .none kV15 dc15 pm15 an15 cd15 ct15,
    d__law_bent := def_mk X G a15 l15 c15 k15 fun _ _ _ _ _ _ us hl => match us, hl with | [_, _], _ => rfl,
    f__law_stepped := f16,
    fd__law_stepped := PySem.W.fnOf "_law_stepped" "_law_stepped" (defArgs s__law_stepped) (defBody s__law_stepped) (defScope s__law_stepped) .none kV16 dc16 pm16 an16 cd16 ct16,
    d__law_stepped := def_mk X G a16 l16 c16 k16 fun _ _ _ _ _ _ us hl => match us, hl with | [_, _], _ => rfl,
    f_law := fa,
    fd_law := PySem.W.fnOf "law" "law" (defArgs s_law) (defBody s_law) (defScope s_law) .none kV17 dc17 pm17 an17 cd17 ct17,
    d_law := def_mk X G a17 l17 c17 k17 fun _ _ _ _ _ _ us hl => match us, hl with | [_], _ => rfl,
    abs := PySem.W.mg_none_of X G z_abs,
    bool := PySem.W.mg_none_of X G z_bool,
    int := PySem.W.mg_none_of X G z_int,
    isinstance := PySem.W.mg_none_of X G z_isinstance,
    len := PySem.W.mg_none_of X G z_len,
    list := PySem.W.mg_none_of X G z_list,
    range := PySem.W.mg_none_of X G z_range,
    str := PySem.W.mg_none_of X G z_str,
    tuple := PySem.W.mg_none_of X G z_tuple,
    c_LETTERS := ⟨_, PySem.W.mg_of X G y_LETTERS⟩ }
  exact ⟨PySem.W.fnOf "law" "law" (defArgs s_law) (defBody s_law) (defScope s_law) .none kV17 dc17 pm17 an17 cd17 ct17, fun s v => .of_eq rfl, fun base _ _ => ok_law T⟩
end K44

set_option maxHeartbeats 2000000
/-! K44L: the plain law of boxes. -/
namespace K44
open PySem PySem.Spec L2 DL LX
abbrev Bx := List (List (Nat × Nat))
abbrev pD (p : Nat × Nat) : D := .tup [.str [p.1], .int (p.2 : Nat)]
abbrev rD (r : List (Nat × Nat)) : D := .tup (r.map pD)
abbrev bD (b : Bx) : D := .tup (b.map rD)
abbrev az : List Nat := [97, 98, 99, 100, 101, 102, 103, 104, 105, 106, 107, 108, 109, 110, 111, 112, 113, 114, 115, 116, 117, 118, 119, 120, 121, 122]
def stepB (b : Bx) (ord : List Nat) (q c : Nat) : Nat × Nat := ((b[q]?.getD [])[ord.idxOf c]?).getD (0, 0)
def runB (b : Bx) (ord : List Nat) : Nat → List Nat → List Nat × Nat
  | q, [] => ([], q)
  | q, c :: r => ((stepB b ord q c).1 :: (runB b ord (stepB b ord q c).2 r).1, (runB b ord (stepB b ord q c).2 r).2)
theorem runB_nil (b : Bx) (ord : List Nat) (q : Nat) : runB b ord q [] = ([], q) := by unfold runB; rfl
theorem runB_cons (b : Bx) (ord : List Nat) (q c : Nat) (r : List Nat) : runB b ord q (c :: r) = ((stepB b ord q c).1 :: (runB b ord (stepB b ord q c).2 r).1, (runB b ord (stepB b ord q c).2 r).2) := by conv => lhs; unfold runB
structure okB (b : Bx) (n : Nat) : Prop where
  ne : b ≠ []
  le : b.length ≤ 4
  row : ∀ r ∈ b, r.length = n
  pr : ∀ r ∈ b, ∀ p ∈ r, p.2 < b.length ∧ p.1 ∈ az
theorem stepB_eq {b : Bx} {ord : List Nat} {q c : Nat} (hb : okB b ord.length) (hq : q < b.length) (hc : c ∈ ord) : ∃ h : ord.idxOf c < b[q].length, stepB b ord q c = b[q][ord.idxOf c] ∧ (stepB b ord q c).2 < b.length := by
  have h : ord.idxOf c < b[q].length := by rw [hb.row _ (List.getElem_mem hq)]; exact List.idxOf_lt_length_iff.mpr hc
  refine ⟨h, ?_⟩
  have e : stepB b ord q c = b[q][ord.idxOf c] := by simp [stepB, hq, h]
  exact ⟨e, e ▸ (hb.pr _ (List.getElem_mem hq) _ (List.getElem_mem h)).1⟩
theorem p_from {b : Bx} {ord : List Nat} (hb : okB b ord.length) (q : Nat) (hq : q < b.length) (row : List Nat) (hr : ∀ c ∈ row, c ∈ ord) (hz : row.length ≤ 100) :
    F_answer_from [.d (bD b), .d (.str ord), .d (.int q), .d (.str row)] [] = some (.d (.tup [.str (runB b ord q row).1, .int ((runB b ord q row).2 : Nat)]), []) := by
  unfold F_answer_from g_answer_from
  rw [a_runF]
  apply Run.eq
  simp -implicitDefEqProofs only [run_bind, run_some, run_none, run_map, a_var, a_c, a_op, a_un, a_chain, tst_b, a_test, a_and, a_or, a_not, a_andV, a_orV, a_notV, a_if, a_nil, a_cons, a_tup, a_lst, a_new, a_fn, a_isi, a_call, asI_i, a_part, a_noPart, a_cut, a_app, a_ext, a_index, a_sub, a_ps0, a_ps1, a_disp, a_lc, a_tt, a_skip, andThen_nx, andThen_rt, andThen_bk, andThen_ct, a_seq, a_expr, a_ret, a_retN, a_brk, a_cnt, a_ifS, a_set, a_aug, a_asg, two_eq, a_par, a_put, a_daug, a_for, a_scoped, frzO_nx, frzO_bk, frzO_ct, frzO_rt, frzS_d, frzS_r, frzE_nil, frzE_none, frzE_some, a_gN, a_gsNil, a_gsCons, a_gTp, asStr_s, a_strI, asRng_i, a_rng1, asRng2_i, a_rng2, chkOf_d, a_seqI, a_cYes, items_tup, items_lst, litems_lst, ditems_tup, ditems_lst, toD_d, dataAll_nil, dataAll_cons, dataAll_mapd, asD_d, v_ii, v_addI, v_addS, v_addT, v_addL, v_neg, v_ltI, v_ltS, v_eq, v_ne, v_inS, v_notInS, v_ixS, v_ixR, v_ixT, v_ixL, v_cutS, v_cutT, v_cutL, v_lenS, v_lenR, v_lenT, v_lenL, v_abs, v_int1, v_listT, v_listL, v_tupleT, v_tupleL, v_isN, v_notN, isN_non, isN_r, isN_bl, isN_int, isN_str, isN_tup, isN_lst, ty_non, ty_bl, ty_int, ty_str, ty_tup, ty_lst, keyOf_i, keyOf_s, gAddI_i, gSubI_i, index_s, idxKind_s, isDat_d, isDat_r, svB_d, svB_r, moB_lst, moB_dk, natAbs10, asL_l, asK_k, itL_l, liL_l, tdL_l, tdL_k, dsL_k, dsL_l, tyL_l, tyL_k, lstAt_r, dkAt_r, items_r, litems_r, toD_r, dkS_r, dkS_tup, dkS_lst, dkS_dk, dkS_str, tyS_r, v_ixRef, v_lenRef, v_cutRef, ditems_r, v_listRef, v_tupleRef, v_eqRef, v_neRef, v_addRR, v_addRL, v_addLR, finO_nx, finO_rt, finO_bk, finO_ct, isTy_int_NoneType, isTy_int_bool, isTy_int_int, isTy_int_str, isTy_int_tuple, isTy_int_list, isTy_int_dict, isTy_bool_NoneType, isTy_bool_bool, isTy_bool_int, isTy_bool_str, isTy_bool_tuple, isTy_bool_list, isTy_bool_dict, isTy_str_NoneType, isTy_str_bool, isTy_str_int, isTy_str_str, isTy_str_tuple, isTy_str_list, isTy_str_dict, isTy_tuple_NoneType, isTy_tuple_bool, isTy_tuple_int, isTy_tuple_str, isTy_tuple_tuple, isTy_tuple_list, isTy_tuple_dict, isTy_list_NoneType, isTy_list_bool, isTy_list_int, isTy_list_str, isTy_list_tuple, isTy_list_list, isTy_list_dict, isTy_dict_NoneType, isTy_dict_bool, isTy_dict_int, isTy_dict_str, isTy_dict_tuple, isTy_dict_list, isTy_dict_dict, eo_non, eo_bl, eo_int, eo_str, eo_tup, eo_lst, ev_nn, ev_ii, ev_bb, ev_ss, ev_tt, ev_ll, ea_nn, ea_nc, ea_cn, ea_cc, ea_mapd, ev_non_bl, ev_non_int, ev_non_str, ev_non_tup, ev_non_lst, ev_bl_non, ev_bl_str, ev_bl_tup, ev_bl_lst, ev_int_non, ev_int_str, ev_int_tup, ev_int_lst, ev_str_non, ev_str_bl, ev_str_int, ev_str_tup, ev_str_lst, ev_tup_non, ev_tup_bl, ev_tup_int, ev_tup_str, ev_tup_lst, ev_lst_non, ev_lst_bl, ev_lst_int, ev_lst_str, ev_lst_tup, wipeE_nil, wipeE_cons, cast_0, cast_1, cast_2, cast_3, cast_4, cast_5, cast_6, cast_7, cast_8, cast_9, cast_10, cast_11, cast_12, keysOf_nil, keysOf_cons, mergeS_nil, mergeS_cons, inR_s, sz_lt, sz_le, leq_nn, leq_nc, leq_cn, leq_cc, key_ss, key_ii, key_is, key_si, findK_nil, findK_cons, mapS_nil, mapS_cons, putS_nil, putS_cons, Option.bind_some, Option.map_some, Option.bind_none, Option.map_none, List.set_cons_zero, List.set_cons_succ, List.set_nil, List.getElem?_cons_zero, List.getElem?_cons_succ, List.length_cons, List.length_nil, List.nil_append, List.cons_append, List.map_cons, List.map_nil, if_true, if_false, Bool.false_eq_true, reduceIte, List.all_cons, List.all_nil, Bool.and_true, Bool.true_and, Bool.and_false, Bool.false_and, Bool.not_true, Bool.not_false, Bool.or_false, Bool.or_true, Bool.false_or, Bool.true_or, and_self, and_true, true_and, Int.toNat_natCast, decide_true, decide_false, List.take_zero, List.take_nil, List.take_succ_cons, List.drop_succ_cons, List.drop_zero, List.drop_nil, List.set_nil, List.replicate_succ, List.replicate_zero, List.foldl_cons, List.foldl_nil, Nat.reduceSub, Nat.reduceAdd, Nat.reduceLT, Nat.reduceLeDiff, Nat.reduceEqDiff, Nat.reduceMul, Int.reduceAdd, Int.reduceSub, Int.reduceMul, Int.reduceLT, Int.reduceLE, Int.reduceNeg, Int.reducePow, Int.reduceToNat, or_true, true_or, or_false, false_or, false_and, and_false, Nat.reducePow, not_true_eq_false, not_false_eq_true, Nat.add_zero, Nat.zero_add, Nat.sub_self, Nat.sub_zero, reduceCtorEq, Option.map_map, Int.reduceEq, Int.reduceNe, Int.reduceMod, Int.reduceDiv, List.append_nil, rngL_zero, at0, at1, at2]
  refine (forL_wp _ (fun i δ st => ∃ (q' : Nat) (out : List Nat) (o5 o6 : Option SV), δ = [some (.d (bD b)), some (.d (.str ord)), some (.d (.int q')), some (.d (.str row)), some (.d (.str out)), o5, o6] ∧ st = [] ∧ q' < b.length ∧ out.length = i ∧ okO o5 ∧ okO o6 ∧
      out ++ (runB b ord q' (row.drop i)).1 = (runB b ord q row).1 ∧ (runB b ord q' (row.drop i)).2 = (runB b ord q row).2)
    (R := fun p => ∃ o5 o6, p = (.nx, [some (.d (bD b)), some (.d (.str ord)), some (.d (.int (runB b ord q row).2)), some (.d (.str row)), some (.d (.str (runB b ord q row).1)), o5, o6], []) ∧ okO o5 ∧ okO o6) ⟨q, [], none, none, rfl, rfl, hq, rfl, okO_none, okO_none, rfl, rfl⟩ ?_ ?_).mono ?_
  · rintro i s δ st hs ⟨q', out, o5, o6, rfl, rfl, hq', ho, k5, k6, e1, e2⟩
    obtain ⟨hi, rfl⟩ := map_get hs
    have hc := hr _ (List.getElem_mem hi)
    obtain ⟨h1, h2, h3⟩ := stepB_eq hb hq' hc
    rw [List.drop_eq_getElem_cons hi] at e1 e2
    rw [runB_cons, h2] at e1 e2
    rw [h2] at h3
    have hsz : out.length + 1 ≤ 100000 := by omega
    simp -implicitDefEqProofs only [run_bind, run_some, run_none, run_map, a_var, a_c, a_op, a_un, a_chain, tst_b, a_test, a_and, a_or, a_not, a_andV, a_orV, a_notV, a_if, a_nil, a_cons, a_tup, a_lst, a_new, a_fn, a_isi, a_call, asI_i, a_part, a_noPart, a_cut, a_app, a_ext, a_index, a_sub, a_ps0, a_ps1, a_disp, a_lc, a_tt, a_skip, andThen_nx, andThen_rt, andThen_bk, andThen_ct, a_seq, a_expr, a_ret, a_retN, a_brk, a_cnt, a_ifS, a_set, a_aug, a_asg, two_eq, a_par, a_put, a_daug, a_for, a_scoped, frzO_nx, frzO_bk, frzO_ct, frzO_rt, frzS_d, frzS_r, frzE_nil, frzE_none, frzE_some, a_gN, a_gsNil, a_gsCons, a_gTp, asStr_s, a_strI, asRng_i, a_rng1, asRng2_i, a_rng2, chkOf_d, a_seqI, a_cYes, items_tup, items_lst, litems_lst, ditems_tup, ditems_lst, toD_d, dataAll_nil, dataAll_cons, dataAll_mapd, asD_d, v_ii, v_addI, v_addS, v_addT, v_addL, v_neg, v_ltI, v_ltS, v_eq, v_ne, v_inS, v_notInS, v_ixS, v_ixR, v_ixT, v_ixL, v_cutS, v_cutT, v_cutL, v_lenS, v_lenR, v_lenT, v_lenL, v_abs, v_int1, v_listT, v_listL, v_tupleT, v_tupleL, v_isN, v_notN, isN_non, isN_r, isN_bl, isN_int, isN_str, isN_tup, isN_lst, ty_non, ty_bl, ty_int, ty_str, ty_tup, ty_lst, keyOf_i, keyOf_s, gAddI_i, gSubI_i, index_s, idxKind_s, isDat_d, isDat_r, svB_d, svB_r, moB_lst, moB_dk, natAbs10, asL_l, asK_k, itL_l, liL_l, tdL_l, tdL_k, dsL_k, dsL_l, tyL_l, tyL_k, lstAt_r, dkAt_r, items_r, litems_r, toD_r, dkS_r, dkS_tup, dkS_lst, dkS_dk, dkS_str, tyS_r, v_ixRef, v_lenRef, v_cutRef, ditems_r, v_listRef, v_tupleRef, v_eqRef, v_neRef, v_addRR, v_addRL, v_addLR, finO_nx, finO_rt, finO_bk, finO_ct, isTy_int_NoneType, isTy_int_bool, isTy_int_int, isTy_int_str, isTy_int_tuple, isTy_int_list, isTy_int_dict, isTy_bool_NoneType, isTy_bool_bool, isTy_bool_int, isTy_bool_str, isTy_bool_tuple, isTy_bool_list, isTy_bool_dict, isTy_str_NoneType, isTy_str_bool, isTy_str_int, isTy_str_str, isTy_str_tuple, isTy_str_list, isTy_str_dict, isTy_tuple_NoneType, isTy_tuple_bool, isTy_tuple_int, isTy_tuple_str, isTy_tuple_tuple, isTy_tuple_list, isTy_tuple_dict, isTy_list_NoneType, isTy_list_bool, isTy_list_int, isTy_list_str, isTy_list_tuple, isTy_list_list, isTy_list_dict, isTy_dict_NoneType, isTy_dict_bool, isTy_dict_int, isTy_dict_str, isTy_dict_tuple, isTy_dict_list, isTy_dict_dict, eo_non, eo_bl, eo_int, eo_str, eo_tup, eo_lst, ev_nn, ev_ii, ev_bb, ev_ss, ev_tt, ev_ll, ea_nn, ea_nc, ea_cn, ea_cc, ea_mapd, ev_non_bl, ev_non_int, ev_non_str, ev_non_tup, ev_non_lst, ev_bl_non, ev_bl_str, ev_bl_tup, ev_bl_lst, ev_int_non, ev_int_str, ev_int_tup, ev_int_lst, ev_str_non, ev_str_bl, ev_str_int, ev_str_tup, ev_str_lst, ev_tup_non, ev_tup_bl, ev_tup_int, ev_tup_str, ev_tup_lst, ev_lst_non, ev_lst_bl, ev_lst_int, ev_lst_str, ev_lst_tup, wipeE_nil, wipeE_cons, cast_0, cast_1, cast_2, cast_3, cast_4, cast_5, cast_6, cast_7, cast_8, cast_9, cast_10, cast_11, cast_12, keysOf_nil, keysOf_cons, mergeS_nil, mergeS_cons, inR_s, sz_lt, sz_le, leq_nn, leq_nc, leq_cn, leq_cc, key_ss, key_ii, key_is, key_si, findK_nil, findK_cons, mapS_nil, mapS_cons, putS_nil, putS_cons, Option.bind_some, Option.map_some, Option.bind_none, Option.map_none, List.set_cons_zero, List.set_cons_succ, List.set_nil, List.getElem?_cons_zero, List.getElem?_cons_succ, List.length_cons, List.length_nil, List.nil_append, List.cons_append, List.map_cons, List.map_nil, if_true, if_false, Bool.false_eq_true, reduceIte, List.all_cons, List.all_nil, Bool.and_true, Bool.true_and, Bool.and_false, Bool.false_and, Bool.not_true, Bool.not_false, Bool.or_false, Bool.or_true, Bool.false_or, Bool.true_or, and_self, and_true, true_and, Int.toNat_natCast, decide_true, decide_false, List.take_zero, List.take_nil, List.take_succ_cons, List.drop_succ_cons, List.drop_zero, List.drop_nil, List.set_nil, List.replicate_succ, List.replicate_zero, List.foldl_cons, List.foldl_nil, Nat.reduceSub, Nat.reduceAdd, Nat.reduceLT, Nat.reduceLeDiff, Nat.reduceEqDiff, Nat.reduceMul, Int.reduceAdd, Int.reduceSub, Int.reduceMul, Int.reduceLT, Int.reduceLE, Int.reduceNeg, Int.reducePow, Int.reduceToNat, or_true, true_or, or_false, false_or, false_and, and_false, Nat.reducePow, not_true_eq_false, not_false_eq_true, Nat.add_zero, Nat.zero_add, Nat.sub_self, Nat.sub_zero, reduceCtorEq, Option.map_map, Int.reduceEq, Int.reduceNe, Int.reduceMod, Int.reduceDiv, List.append_nil, rngL_zero, at0, at1, at2, atI_mapn hq', if_pos hc, atI_mapn h1, sz_le hsz]
    refine ⟨_, _, _, _, rfl, h3, by simp [ho], okO_d _, okO_d _, ?_, e2⟩
    rw [← e1]
    simp
  · rintro δ st ⟨q', out, o5, o6, rfl, rfl, hq', ho, k5, k6, e1, e2⟩
    rw [List.length_map, List.drop_length, runB_nil] at e1 e2
    rw [List.append_nil] at e1
    exact ⟨o5, o6, by rw [e1, ← e2], k5, k6⟩
  · rintro p ⟨o5, o6, rfl, k5, k6⟩
    simp -implicitDefEqProofs only [run_bind, run_some, run_none, run_map, a_var, a_c, a_op, a_un, a_chain, tst_b, a_test, a_and, a_or, a_not, a_andV, a_orV, a_notV, a_if, a_nil, a_cons, a_tup, a_lst, a_new, a_fn, a_isi, a_call, asI_i, a_part, a_noPart, a_cut, a_app, a_ext, a_index, a_sub, a_ps0, a_ps1, a_disp, a_lc, a_tt, a_skip, andThen_nx, andThen_rt, andThen_bk, andThen_ct, a_seq, a_expr, a_ret, a_retN, a_brk, a_cnt, a_ifS, a_set, a_aug, a_asg, two_eq, a_par, a_put, a_daug, a_for, a_scoped, frzO_nx, frzO_bk, frzO_ct, frzO_rt, frzS_d, frzS_r, frzE_nil, frzE_none, frzE_some, a_gN, a_gsNil, a_gsCons, a_gTp, asStr_s, a_strI, asRng_i, a_rng1, asRng2_i, a_rng2, chkOf_d, a_seqI, a_cYes, items_tup, items_lst, litems_lst, ditems_tup, ditems_lst, toD_d, dataAll_nil, dataAll_cons, dataAll_mapd, asD_d, v_ii, v_addI, v_addS, v_addT, v_addL, v_neg, v_ltI, v_ltS, v_eq, v_ne, v_inS, v_notInS, v_ixS, v_ixR, v_ixT, v_ixL, v_cutS, v_cutT, v_cutL, v_lenS, v_lenR, v_lenT, v_lenL, v_abs, v_int1, v_listT, v_listL, v_tupleT, v_tupleL, v_isN, v_notN, isN_non, isN_r, isN_bl, isN_int, isN_str, isN_tup, isN_lst, ty_non, ty_bl, ty_int, ty_str, ty_tup, ty_lst, keyOf_i, keyOf_s, gAddI_i, gSubI_i, index_s, idxKind_s, isDat_d, isDat_r, svB_d, svB_r, moB_lst, moB_dk, natAbs10, asL_l, asK_k, itL_l, liL_l, tdL_l, tdL_k, dsL_k, dsL_l, tyL_l, tyL_k, lstAt_r, dkAt_r, items_r, litems_r, toD_r, dkS_r, dkS_tup, dkS_lst, dkS_dk, dkS_str, tyS_r, v_ixRef, v_lenRef, v_cutRef, ditems_r, v_listRef, v_tupleRef, v_eqRef, v_neRef, v_addRR, v_addRL, v_addLR, finO_nx, finO_rt, finO_bk, finO_ct, isTy_int_NoneType, isTy_int_bool, isTy_int_int, isTy_int_str, isTy_int_tuple, isTy_int_list, isTy_int_dict, isTy_bool_NoneType, isTy_bool_bool, isTy_bool_int, isTy_bool_str, isTy_bool_tuple, isTy_bool_list, isTy_bool_dict, isTy_str_NoneType, isTy_str_bool, isTy_str_int, isTy_str_str, isTy_str_tuple, isTy_str_list, isTy_str_dict, isTy_tuple_NoneType, isTy_tuple_bool, isTy_tuple_int, isTy_tuple_str, isTy_tuple_tuple, isTy_tuple_list, isTy_tuple_dict, isTy_list_NoneType, isTy_list_bool, isTy_list_int, isTy_list_str, isTy_list_tuple, isTy_list_list, isTy_list_dict, isTy_dict_NoneType, isTy_dict_bool, isTy_dict_int, isTy_dict_str, isTy_dict_tuple, isTy_dict_list, isTy_dict_dict, eo_non, eo_bl, eo_int, eo_str, eo_tup, eo_lst, ev_nn, ev_ii, ev_bb, ev_ss, ev_tt, ev_ll, ea_nn, ea_nc, ea_cn, ea_cc, ea_mapd, ev_non_bl, ev_non_int, ev_non_str, ev_non_tup, ev_non_lst, ev_bl_non, ev_bl_str, ev_bl_tup, ev_bl_lst, ev_int_non, ev_int_str, ev_int_tup, ev_int_lst, ev_str_non, ev_str_bl, ev_str_int, ev_str_tup, ev_str_lst, ev_tup_non, ev_tup_bl, ev_tup_int, ev_tup_str, ev_tup_lst, ev_lst_non, ev_lst_bl, ev_lst_int, ev_lst_str, ev_lst_tup, wipeE_nil, wipeE_cons, cast_0, cast_1, cast_2, cast_3, cast_4, cast_5, cast_6, cast_7, cast_8, cast_9, cast_10, cast_11, cast_12, keysOf_nil, keysOf_cons, mergeS_nil, mergeS_cons, inR_s, sz_lt, sz_le, leq_nn, leq_nc, leq_cn, leq_cc, key_ss, key_ii, key_is, key_si, findK_nil, findK_cons, mapS_nil, mapS_cons, putS_nil, putS_cons, Option.bind_some, Option.map_some, Option.bind_none, Option.map_none, List.set_cons_zero, List.set_cons_succ, List.set_nil, List.getElem?_cons_zero, List.getElem?_cons_succ, List.length_cons, List.length_nil, List.nil_append, List.cons_append, List.map_cons, List.map_nil, if_true, if_false, Bool.false_eq_true, reduceIte, List.all_cons, List.all_nil, Bool.and_true, Bool.true_and, Bool.and_false, Bool.false_and, Bool.not_true, Bool.not_false, Bool.or_false, Bool.or_true, Bool.false_or, Bool.true_or, and_self, and_true, true_and, Int.toNat_natCast, decide_true, decide_false, List.take_zero, List.take_nil, List.take_succ_cons, List.drop_succ_cons, List.drop_zero, List.drop_nil, List.set_nil, List.replicate_succ, List.replicate_zero, List.foldl_cons, List.foldl_nil, Nat.reduceSub, Nat.reduceAdd, Nat.reduceLT, Nat.reduceLeDiff, Nat.reduceEqDiff, Nat.reduceMul, Int.reduceAdd, Int.reduceSub, Int.reduceMul, Int.reduceLT, Int.reduceLE, Int.reduceNeg, Int.reducePow, Int.reduceToNat, or_true, true_or, or_false, false_or, false_and, and_false, Nat.reducePow, not_true_eq_false, not_false_eq_true, Nat.add_zero, Nat.zero_add, Nat.sub_self, Nat.sub_zero, reduceCtorEq, Option.map_map, Int.reduceEq, Int.reduceNe, Int.reduceMod, Int.reduceDiv, List.append_nil, rngL_zero, at0, at1, at2, frzE_okO k5, frzE_okO k6]
theorem p_ans {b : Bx} {ord : List Nat} (hb : okB b ord.length) (row : List Nat) (hr : ∀ c ∈ row, c ∈ ord) (hz : row.length ≤ 100) : F_box_answer [.d (bD b), .d (.str ord), .d (.str row)] [] = some (.d (.str (runB b ord 0 row).1), []) := by
  have hq : 0 < b.length := List.length_pos_iff.mpr hb.ne
  have e := callM_pure [] (p_from hb 0 hq row hr hz)
  unfold F_box_answer g_box_answer
  rw [a_runF]
  rw [Int.ofNat_zero] at e
  simp -implicitDefEqProofs only [run_bind, run_some, run_none, run_map, a_var, a_c, a_op, a_un, a_chain, tst_b, a_test, a_and, a_or, a_not, a_andV, a_orV, a_notV, a_if, a_nil, a_cons, a_tup, a_lst, a_new, a_fn, a_isi, a_call, asI_i, a_part, a_noPart, a_cut, a_app, a_ext, a_index, a_sub, a_ps0, a_ps1, a_disp, a_lc, a_tt, a_skip, andThen_nx, andThen_rt, andThen_bk, andThen_ct, a_seq, a_expr, a_ret, a_retN, a_brk, a_cnt, a_ifS, a_set, a_aug, a_asg, two_eq, a_par, a_put, a_daug, a_for, a_scoped, frzO_nx, frzO_bk, frzO_ct, frzO_rt, frzS_d, frzS_r, frzE_nil, frzE_none, frzE_some, a_gN, a_gsNil, a_gsCons, a_gTp, asStr_s, a_strI, asRng_i, a_rng1, asRng2_i, a_rng2, chkOf_d, a_seqI, a_cYes, items_tup, items_lst, litems_lst, ditems_tup, ditems_lst, toD_d, dataAll_nil, dataAll_cons, dataAll_mapd, asD_d, v_ii, v_addI, v_addS, v_addT, v_addL, v_neg, v_ltI, v_ltS, v_eq, v_ne, v_inS, v_notInS, v_ixS, v_ixR, v_ixT, v_ixL, v_cutS, v_cutT, v_cutL, v_lenS, v_lenR, v_lenT, v_lenL, v_abs, v_int1, v_listT, v_listL, v_tupleT, v_tupleL, v_isN, v_notN, isN_non, isN_r, isN_bl, isN_int, isN_str, isN_tup, isN_lst, ty_non, ty_bl, ty_int, ty_str, ty_tup, ty_lst, keyOf_i, keyOf_s, gAddI_i, gSubI_i, index_s, idxKind_s, isDat_d, isDat_r, svB_d, svB_r, moB_lst, moB_dk, natAbs10, asL_l, asK_k, itL_l, liL_l, tdL_l, tdL_k, dsL_k, dsL_l, tyL_l, tyL_k, lstAt_r, dkAt_r, items_r, litems_r, toD_r, dkS_r, dkS_tup, dkS_lst, dkS_dk, dkS_str, tyS_r, v_ixRef, v_lenRef, v_cutRef, ditems_r, v_listRef, v_tupleRef, v_eqRef, v_neRef, v_addRR, v_addRL, v_addLR, finO_nx, finO_rt, finO_bk, finO_ct, isTy_int_NoneType, isTy_int_bool, isTy_int_int, isTy_int_str, isTy_int_tuple, isTy_int_list, isTy_int_dict, isTy_bool_NoneType, isTy_bool_bool, isTy_bool_int, isTy_bool_str, isTy_bool_tuple, isTy_bool_list, isTy_bool_dict, isTy_str_NoneType, isTy_str_bool, isTy_str_int, isTy_str_str, isTy_str_tuple, isTy_str_list, isTy_str_dict, isTy_tuple_NoneType, isTy_tuple_bool, isTy_tuple_int, isTy_tuple_str, isTy_tuple_tuple, isTy_tuple_list, isTy_tuple_dict, isTy_list_NoneType, isTy_list_bool, isTy_list_int, isTy_list_str, isTy_list_tuple, isTy_list_list, isTy_list_dict, isTy_dict_NoneType, isTy_dict_bool, isTy_dict_int, isTy_dict_str, isTy_dict_tuple, isTy_dict_list, isTy_dict_dict, eo_non, eo_bl, eo_int, eo_str, eo_tup, eo_lst, ev_nn, ev_ii, ev_bb, ev_ss, ev_tt, ev_ll, ea_nn, ea_nc, ea_cn, ea_cc, ea_mapd, ev_non_bl, ev_non_int, ev_non_str, ev_non_tup, ev_non_lst, ev_bl_non, ev_bl_str, ev_bl_tup, ev_bl_lst, ev_int_non, ev_int_str, ev_int_tup, ev_int_lst, ev_str_non, ev_str_bl, ev_str_int, ev_str_tup, ev_str_lst, ev_tup_non, ev_tup_bl, ev_tup_int, ev_tup_str, ev_tup_lst, ev_lst_non, ev_lst_bl, ev_lst_int, ev_lst_str, ev_lst_tup, wipeE_nil, wipeE_cons, cast_0, cast_1, cast_2, cast_3, cast_4, cast_5, cast_6, cast_7, cast_8, cast_9, cast_10, cast_11, cast_12, keysOf_nil, keysOf_cons, mergeS_nil, mergeS_cons, inR_s, sz_lt, sz_le, leq_nn, leq_nc, leq_cn, leq_cc, key_ss, key_ii, key_is, key_si, findK_nil, findK_cons, mapS_nil, mapS_cons, putS_nil, putS_cons, Option.bind_some, Option.map_some, Option.bind_none, Option.map_none, List.set_cons_zero, List.set_cons_succ, List.set_nil, List.getElem?_cons_zero, List.getElem?_cons_succ, List.length_cons, List.length_nil, List.nil_append, List.cons_append, List.map_cons, List.map_nil, if_true, if_false, Bool.false_eq_true, reduceIte, List.all_cons, List.all_nil, Bool.and_true, Bool.true_and, Bool.and_false, Bool.false_and, Bool.not_true, Bool.not_false, Bool.or_false, Bool.or_true, Bool.false_or, Bool.true_or, and_self, and_true, true_and, Int.toNat_natCast, decide_true, decide_false, List.take_zero, List.take_nil, List.take_succ_cons, List.drop_succ_cons, List.drop_zero, List.drop_nil, List.set_nil, List.replicate_succ, List.replicate_zero, List.foldl_cons, List.foldl_nil, Nat.reduceSub, Nat.reduceAdd, Nat.reduceLT, Nat.reduceLeDiff, Nat.reduceEqDiff, Nat.reduceMul, Int.reduceAdd, Int.reduceSub, Int.reduceMul, Int.reduceLT, Int.reduceLE, Int.reduceNeg, Int.reducePow, Int.reduceToNat, or_true, true_or, or_false, false_or, false_and, and_false, Nat.reducePow, not_true_eq_false, not_false_eq_true, Nat.add_zero, Nat.zero_add, Nat.sub_self, Nat.sub_zero, reduceCtorEq, Option.map_map, Int.reduceEq, Int.reduceNe, Int.reduceMod, Int.reduceDiv, List.append_nil, rngL_zero, at0, at1, at2, e]
abbrev sP (c : Nat) (p : Nat × Nat) : D := .tup [.str [c], .str [p.1], .int (p.2 : Nat)]
abbrev sR (ord : List Nat) (r : List (Nat × Nat)) : D := .tup [.tup ((ord.zip r).map fun x => sP x.1 x.2), .str []]
abbrev sD (ord : List Nat) (b : Bx) : D := .tup [.str [], .tup (b.map (sR ord))]
theorem p_step {b : Bx} {ord : List Nat} (hb : okB b ord.length) (hn : ord.length ≤ 100) : F_as_stepping [.d (bD b), .d (.str ord)] [] = some (.d (sD ord b), []) := by
  have hle := hb.le
  have hr : inR (ord.length : Int) = true := inR_of (by omega)
  unfold F_as_stepping g_as_stepping
  rw [a_runF]
  apply Run.eq
  simp -implicitDefEqProofs only [run_bind, run_some, run_none, run_map, a_var, a_c, a_op, a_un, a_chain, tst_b, a_test, a_and, a_or, a_not, a_andV, a_orV, a_notV, a_if, a_nil, a_cons, a_tup, a_lst, a_new, a_fn, a_isi, a_call, asI_i, a_part, a_noPart, a_cut, a_app, a_ext, a_index, a_sub, a_ps0, a_ps1, a_disp, a_lc, a_tt, a_skip, andThen_nx, andThen_rt, andThen_bk, andThen_ct, a_seq, a_expr, a_ret, a_retN, a_brk, a_cnt, a_ifS, a_set, a_aug, a_asg, two_eq, a_par, a_put, a_daug, a_for, a_scoped, frzO_nx, frzO_bk, frzO_ct, frzO_rt, frzS_d, frzS_r, frzE_nil, frzE_none, frzE_some, a_gN, a_gsNil, a_gsCons, a_gTp, asStr_s, a_strI, asRng_i, a_rng1, asRng2_i, a_rng2, chkOf_d, a_seqI, a_cYes, items_tup, items_lst, litems_lst, ditems_tup, ditems_lst, toD_d, dataAll_nil, dataAll_cons, dataAll_mapd, asD_d, v_ii, v_addI, v_addS, v_addT, v_addL, v_neg, v_ltI, v_ltS, v_eq, v_ne, v_inS, v_notInS, v_ixS, v_ixR, v_ixT, v_ixL, v_cutS, v_cutT, v_cutL, v_lenS, v_lenR, v_lenT, v_lenL, v_abs, v_int1, v_listT, v_listL, v_tupleT, v_tupleL, v_isN, v_notN, isN_non, isN_r, isN_bl, isN_int, isN_str, isN_tup, isN_lst, ty_non, ty_bl, ty_int, ty_str, ty_tup, ty_lst, keyOf_i, keyOf_s, gAddI_i, gSubI_i, index_s, idxKind_s, isDat_d, isDat_r, svB_d, svB_r, moB_lst, moB_dk, natAbs10, asL_l, asK_k, itL_l, liL_l, tdL_l, tdL_k, dsL_k, dsL_l, tyL_l, tyL_k, lstAt_r, dkAt_r, items_r, litems_r, toD_r, dkS_r, dkS_tup, dkS_lst, dkS_dk, dkS_str, tyS_r, v_ixRef, v_lenRef, v_cutRef, ditems_r, v_listRef, v_tupleRef, v_eqRef, v_neRef, v_addRR, v_addRL, v_addLR, finO_nx, finO_rt, finO_bk, finO_ct, isTy_int_NoneType, isTy_int_bool, isTy_int_int, isTy_int_str, isTy_int_tuple, isTy_int_list, isTy_int_dict, isTy_bool_NoneType, isTy_bool_bool, isTy_bool_int, isTy_bool_str, isTy_bool_tuple, isTy_bool_list, isTy_bool_dict, isTy_str_NoneType, isTy_str_bool, isTy_str_int, isTy_str_str, isTy_str_tuple, isTy_str_list, isTy_str_dict, isTy_tuple_NoneType, isTy_tuple_bool, isTy_tuple_int, isTy_tuple_str, isTy_tuple_tuple, isTy_tuple_list, isTy_tuple_dict, isTy_list_NoneType, isTy_list_bool, isTy_list_int, isTy_list_str, isTy_list_tuple, isTy_list_list, isTy_list_dict, isTy_dict_NoneType, isTy_dict_bool, isTy_dict_int, isTy_dict_str, isTy_dict_tuple, isTy_dict_list, isTy_dict_dict, eo_non, eo_bl, eo_int, eo_str, eo_tup, eo_lst, ev_nn, ev_ii, ev_bb, ev_ss, ev_tt, ev_ll, ea_nn, ea_nc, ea_cn, ea_cc, ea_mapd, ev_non_bl, ev_non_int, ev_non_str, ev_non_tup, ev_non_lst, ev_bl_non, ev_bl_str, ev_bl_tup, ev_bl_lst, ev_int_non, ev_int_str, ev_int_tup, ev_int_lst, ev_str_non, ev_str_bl, ev_str_int, ev_str_tup, ev_str_lst, ev_tup_non, ev_tup_bl, ev_tup_int, ev_tup_str, ev_tup_lst, ev_lst_non, ev_lst_bl, ev_lst_int, ev_lst_str, ev_lst_tup, wipeE_nil, wipeE_cons, cast_0, cast_1, cast_2, cast_3, cast_4, cast_5, cast_6, cast_7, cast_8, cast_9, cast_10, cast_11, cast_12, keysOf_nil, keysOf_cons, mergeS_nil, mergeS_cons, inR_s, sz_lt, sz_le, leq_nn, leq_nc, leq_cn, leq_cc, key_ss, key_ii, key_is, key_si, findK_nil, findK_cons, mapS_nil, mapS_cons, putS_nil, putS_cons, Option.bind_some, Option.map_some, Option.bind_none, Option.map_none, List.set_cons_zero, List.set_cons_succ, List.set_nil, List.getElem?_cons_zero, List.getElem?_cons_succ, List.length_cons, List.length_nil, List.nil_append, List.cons_append, List.map_cons, List.map_nil, if_true, if_false, Bool.false_eq_true, reduceIte, List.all_cons, List.all_nil, Bool.and_true, Bool.true_and, Bool.and_false, Bool.false_and, Bool.not_true, Bool.not_false, Bool.or_false, Bool.or_true, Bool.false_or, Bool.true_or, and_self, and_true, true_and, Int.toNat_natCast, decide_true, decide_false, List.take_zero, List.take_nil, List.take_succ_cons, List.drop_succ_cons, List.drop_zero, List.drop_nil, List.set_nil, List.replicate_succ, List.replicate_zero, List.foldl_cons, List.foldl_nil, Nat.reduceSub, Nat.reduceAdd, Nat.reduceLT, Nat.reduceLeDiff, Nat.reduceEqDiff, Nat.reduceMul, Int.reduceAdd, Int.reduceSub, Int.reduceMul, Int.reduceLT, Int.reduceLE, Int.reduceNeg, Int.reducePow, Int.reduceToNat, or_true, true_or, or_false, false_or, false_and, and_false, Nat.reducePow, not_true_eq_false, not_false_eq_true, Nat.add_zero, Nat.zero_add, Nat.sub_self, Nat.sub_zero, reduceCtorEq, Option.map_map, Int.reduceEq, Int.reduceNe, Int.reduceMod, Int.reduceDiv, List.append_nil, rngL_zero, at0, at1, at2]
  refine (forL_wp _ (fun i δ st => ∃ (o3 o4 : Option SV), δ = [some (.d (bD b)), some (.d (.str ord)), some (.r 0), o3, o4] ∧ st = [.lst (((b.take i).map (sR ord)).map .d)] ∧ okO o3 ∧ okO o4)
    (R := fun p => ∃ o3 o4, p = (.nx, [some (.d (bD b)), some (.d (.str ord)), some (.r 0), o3, o4], [.lst ((b.map (sR ord)).map .d)]) ∧ okO o3 ∧ okO o4) ⟨none, none, rfl, rfl, okO_none, okO_none⟩ ?_ ?_).mono ?_
  · rintro i s δ st hs ⟨o3, o4, rfl, rfl, k3, k4⟩
    rw [List.map_map] at hs
    obtain ⟨hi, rfl⟩ := map_get hs
    simp -implicitDefEqProofs only [run_bind, run_some, run_none, run_map, a_var, a_c, a_op, a_un, a_chain, tst_b, a_test, a_and, a_or, a_not, a_andV, a_orV, a_notV, a_if, a_nil, a_cons, a_tup, a_lst, a_new, a_fn, a_isi, a_call, asI_i, a_part, a_noPart, a_cut, a_app, a_ext, a_index, a_sub, a_ps0, a_ps1, a_disp, a_lc, a_tt, a_skip, andThen_nx, andThen_rt, andThen_bk, andThen_ct, a_seq, a_expr, a_ret, a_retN, a_brk, a_cnt, a_ifS, a_set, a_aug, a_asg, two_eq, a_par, a_put, a_daug, a_for, a_scoped, frzO_nx, frzO_bk, frzO_ct, frzO_rt, frzS_d, frzS_r, frzE_nil, frzE_none, frzE_some, a_gN, a_gsNil, a_gsCons, a_gTp, asStr_s, a_strI, asRng_i, a_rng1, asRng2_i, a_rng2, chkOf_d, a_seqI, a_cYes, items_tup, items_lst, litems_lst, ditems_tup, ditems_lst, toD_d, dataAll_nil, dataAll_cons, dataAll_mapd, asD_d, v_ii, v_addI, v_addS, v_addT, v_addL, v_neg, v_ltI, v_ltS, v_eq, v_ne, v_inS, v_notInS, v_ixS, v_ixR, v_ixT, v_ixL, v_cutS, v_cutT, v_cutL, v_lenS, v_lenR, v_lenT, v_lenL, v_abs, v_int1, v_listT, v_listL, v_tupleT, v_tupleL, v_isN, v_notN, isN_non, isN_r, isN_bl, isN_int, isN_str, isN_tup, isN_lst, ty_non, ty_bl, ty_int, ty_str, ty_tup, ty_lst, keyOf_i, keyOf_s, gAddI_i, gSubI_i, index_s, idxKind_s, isDat_d, isDat_r, svB_d, svB_r, moB_lst, moB_dk, natAbs10, asL_l, asK_k, itL_l, liL_l, tdL_l, tdL_k, dsL_k, dsL_l, tyL_l, tyL_k, lstAt_r, dkAt_r, items_r, litems_r, toD_r, dkS_r, dkS_tup, dkS_lst, dkS_dk, dkS_str, tyS_r, v_ixRef, v_lenRef, v_cutRef, ditems_r, v_listRef, v_tupleRef, v_eqRef, v_neRef, v_addRR, v_addRL, v_addLR, finO_nx, finO_rt, finO_bk, finO_ct, isTy_int_NoneType, isTy_int_bool, isTy_int_int, isTy_int_str, isTy_int_tuple, isTy_int_list, isTy_int_dict, isTy_bool_NoneType, isTy_bool_bool, isTy_bool_int, isTy_bool_str, isTy_bool_tuple, isTy_bool_list, isTy_bool_dict, isTy_str_NoneType, isTy_str_bool, isTy_str_int, isTy_str_str, isTy_str_tuple, isTy_str_list, isTy_str_dict, isTy_tuple_NoneType, isTy_tuple_bool, isTy_tuple_int, isTy_tuple_str, isTy_tuple_tuple, isTy_tuple_list, isTy_tuple_dict, isTy_list_NoneType, isTy_list_bool, isTy_list_int, isTy_list_str, isTy_list_tuple, isTy_list_list, isTy_list_dict, isTy_dict_NoneType, isTy_dict_bool, isTy_dict_int, isTy_dict_str, isTy_dict_tuple, isTy_dict_list, isTy_dict_dict, eo_non, eo_bl, eo_int, eo_str, eo_tup, eo_lst, ev_nn, ev_ii, ev_bb, ev_ss, ev_tt, ev_ll, ea_nn, ea_nc, ea_cn, ea_cc, ea_mapd, ev_non_bl, ev_non_int, ev_non_str, ev_non_tup, ev_non_lst, ev_bl_non, ev_bl_str, ev_bl_tup, ev_bl_lst, ev_int_non, ev_int_str, ev_int_tup, ev_int_lst, ev_str_non, ev_str_bl, ev_str_int, ev_str_tup, ev_str_lst, ev_tup_non, ev_tup_bl, ev_tup_int, ev_tup_str, ev_tup_lst, ev_lst_non, ev_lst_bl, ev_lst_int, ev_lst_str, ev_lst_tup, wipeE_nil, wipeE_cons, cast_0, cast_1, cast_2, cast_3, cast_4, cast_5, cast_6, cast_7, cast_8, cast_9, cast_10, cast_11, cast_12, keysOf_nil, keysOf_cons, mergeS_nil, mergeS_cons, inR_s, sz_lt, sz_le, leq_nn, leq_nc, leq_cn, leq_cc, key_ss, key_ii, key_is, key_si, findK_nil, findK_cons, mapS_nil, mapS_cons, putS_nil, putS_cons, Option.bind_some, Option.map_some, Option.bind_none, Option.map_none, List.set_cons_zero, List.set_cons_succ, List.set_nil, List.getElem?_cons_zero, List.getElem?_cons_succ, List.length_cons, List.length_nil, List.nil_append, List.cons_append, List.map_cons, List.map_nil, if_true, if_false, Bool.false_eq_true, reduceIte, List.all_cons, List.all_nil, Bool.and_true, Bool.true_and, Bool.and_false, Bool.false_and, Bool.not_true, Bool.not_false, Bool.or_false, Bool.or_true, Bool.false_or, Bool.true_or, and_self, and_true, true_and, Int.toNat_natCast, decide_true, decide_false, List.take_zero, List.take_nil, List.take_succ_cons, List.drop_succ_cons, List.drop_zero, List.drop_nil, List.set_nil, List.replicate_succ, List.replicate_zero, List.foldl_cons, List.foldl_nil, Nat.reduceSub, Nat.reduceAdd, Nat.reduceLT, Nat.reduceLeDiff, Nat.reduceEqDiff, Nat.reduceMul, Int.reduceAdd, Int.reduceSub, Int.reduceMul, Int.reduceLT, Int.reduceLE, Int.reduceNeg, Int.reducePow, Int.reduceToNat, or_true, true_or, or_false, false_or, false_and, and_false, Nat.reducePow, not_true_eq_false, not_false_eq_true, Nat.add_zero, Nat.zero_add, Nat.sub_self, Nat.sub_zero, reduceCtorEq, Option.map_map, Int.reduceEq, Int.reduceNe, Int.reduceMod, Int.reduceDiv, List.append_nil, rngL_zero, at0, at1, at2, hr, Function.comp]
    rw [lcL_rng (fun j => sP (ord.getD j 0) (b[i].getD j (0, 0))) _ _ (by simpa using (by omega : ord.length ≤ 100000))]
    · have e : (List.range ord.length).map (fun j => sP (ord.getD j 0) (b[i].getD j (0, 0))) = (ord.zip b[i]).map fun x => sP x.1 x.2 := by
        have := hb.row _ (List.getElem_mem hi)
        apply List.ext_getElem
        · simp [this]
        · intro j h1 h2
          simp at h1 h2
          have h3 : j < b[i].length := by omega
          simp [h1, h3]
      have hsz : (b.take i).length < 100000 := by simp; omega
      simp -implicitDefEqProofs only [run_bind, run_some, run_none, run_map, a_var, a_c, a_op, a_un, a_chain, tst_b, a_test, a_and, a_or, a_not, a_andV, a_orV, a_notV, a_if, a_nil, a_cons, a_tup, a_lst, a_new, a_fn, a_isi, a_call, asI_i, a_part, a_noPart, a_cut, a_app, a_ext, a_index, a_sub, a_ps0, a_ps1, a_disp, a_lc, a_tt, a_skip, andThen_nx, andThen_rt, andThen_bk, andThen_ct, a_seq, a_expr, a_ret, a_retN, a_brk, a_cnt, a_ifS, a_set, a_aug, a_asg, two_eq, a_par, a_put, a_daug, a_for, a_scoped, frzO_nx, frzO_bk, frzO_ct, frzO_rt, frzS_d, frzS_r, frzE_nil, frzE_none, frzE_some, a_gN, a_gsNil, a_gsCons, a_gTp, asStr_s, a_strI, asRng_i, a_rng1, asRng2_i, a_rng2, chkOf_d, a_seqI, a_cYes, items_tup, items_lst, litems_lst, ditems_tup, ditems_lst, toD_d, dataAll_nil, dataAll_cons, dataAll_mapd, asD_d, v_ii, v_addI, v_addS, v_addT, v_addL, v_neg, v_ltI, v_ltS, v_eq, v_ne, v_inS, v_notInS, v_ixS, v_ixR, v_ixT, v_ixL, v_cutS, v_cutT, v_cutL, v_lenS, v_lenR, v_lenT, v_lenL, v_abs, v_int1, v_listT, v_listL, v_tupleT, v_tupleL, v_isN, v_notN, isN_non, isN_r, isN_bl, isN_int, isN_str, isN_tup, isN_lst, ty_non, ty_bl, ty_int, ty_str, ty_tup, ty_lst, keyOf_i, keyOf_s, gAddI_i, gSubI_i, index_s, idxKind_s, isDat_d, isDat_r, svB_d, svB_r, moB_lst, moB_dk, natAbs10, asL_l, asK_k, itL_l, liL_l, tdL_l, tdL_k, dsL_k, dsL_l, tyL_l, tyL_k, lstAt_r, dkAt_r, items_r, litems_r, toD_r, dkS_r, dkS_tup, dkS_lst, dkS_dk, dkS_str, tyS_r, v_ixRef, v_lenRef, v_cutRef, ditems_r, v_listRef, v_tupleRef, v_eqRef, v_neRef, v_addRR, v_addRL, v_addLR, finO_nx, finO_rt, finO_bk, finO_ct, isTy_int_NoneType, isTy_int_bool, isTy_int_int, isTy_int_str, isTy_int_tuple, isTy_int_list, isTy_int_dict, isTy_bool_NoneType, isTy_bool_bool, isTy_bool_int, isTy_bool_str, isTy_bool_tuple, isTy_bool_list, isTy_bool_dict, isTy_str_NoneType, isTy_str_bool, isTy_str_int, isTy_str_str, isTy_str_tuple, isTy_str_list, isTy_str_dict, isTy_tuple_NoneType, isTy_tuple_bool, isTy_tuple_int, isTy_tuple_str, isTy_tuple_tuple, isTy_tuple_list, isTy_tuple_dict, isTy_list_NoneType, isTy_list_bool, isTy_list_int, isTy_list_str, isTy_list_tuple, isTy_list_list, isTy_list_dict, isTy_dict_NoneType, isTy_dict_bool, isTy_dict_int, isTy_dict_str, isTy_dict_tuple, isTy_dict_list, isTy_dict_dict, eo_non, eo_bl, eo_int, eo_str, eo_tup, eo_lst, ev_nn, ev_ii, ev_bb, ev_ss, ev_tt, ev_ll, ea_nn, ea_nc, ea_cn, ea_cc, ea_mapd, ev_non_bl, ev_non_int, ev_non_str, ev_non_tup, ev_non_lst, ev_bl_non, ev_bl_str, ev_bl_tup, ev_bl_lst, ev_int_non, ev_int_str, ev_int_tup, ev_int_lst, ev_str_non, ev_str_bl, ev_str_int, ev_str_tup, ev_str_lst, ev_tup_non, ev_tup_bl, ev_tup_int, ev_tup_str, ev_tup_lst, ev_lst_non, ev_lst_bl, ev_lst_int, ev_lst_str, ev_lst_tup, wipeE_nil, wipeE_cons, cast_0, cast_1, cast_2, cast_3, cast_4, cast_5, cast_6, cast_7, cast_8, cast_9, cast_10, cast_11, cast_12, keysOf_nil, keysOf_cons, mergeS_nil, mergeS_cons, inR_s, sz_lt, sz_le, leq_nn, leq_nc, leq_cn, leq_cc, key_ss, key_ii, key_is, key_si, findK_nil, findK_cons, mapS_nil, mapS_cons, putS_nil, putS_cons, Option.bind_some, Option.map_some, Option.bind_none, Option.map_none, List.set_cons_zero, List.set_cons_succ, List.set_nil, List.getElem?_cons_zero, List.getElem?_cons_succ, List.length_cons, List.length_nil, List.nil_append, List.cons_append, List.map_cons, List.map_nil, if_true, if_false, Bool.false_eq_true, reduceIte, List.all_cons, List.all_nil, Bool.and_true, Bool.true_and, Bool.and_false, Bool.false_and, Bool.not_true, Bool.not_false, Bool.or_false, Bool.or_true, Bool.false_or, Bool.true_or, and_self, and_true, true_and, Int.toNat_natCast, decide_true, decide_false, List.take_zero, List.take_nil, List.take_succ_cons, List.drop_succ_cons, List.drop_zero, List.drop_nil, List.set_nil, List.replicate_succ, List.replicate_zero, List.foldl_cons, List.foldl_nil, Nat.reduceSub, Nat.reduceAdd, Nat.reduceLT, Nat.reduceLeDiff, Nat.reduceEqDiff, Nat.reduceMul, Int.reduceAdd, Int.reduceSub, Int.reduceMul, Int.reduceLT, Int.reduceLE, Int.reduceNeg, Int.reducePow, Int.reduceToNat, or_true, true_or, or_false, false_or, false_and, and_false, Nat.reducePow, not_true_eq_false, not_false_eq_true, Nat.add_zero, Nat.zero_add, Nat.sub_self, Nat.sub_zero, reduceCtorEq, Option.map_map, Int.reduceEq, Int.reduceNe, Int.reduceMod, Int.reduceDiv, List.append_nil, rngL_zero, at0, at1, at2, e, List.length_map, sz_lt hsz]
      refine ⟨_, _, rfl, ?_, okO_d _, k4⟩
      rw [List.take_succ_eq_append_getElem hi]
      simp only [List.map_append, List.map_cons, List.map_nil]
    · intro j hj
      have hj2 : j < b[i].length := by rw [hb.row _ (List.getElem_mem hi)]; exact hj
      refine ⟨_, rfl, ?_, ?_⟩
      · simp -implicitDefEqProofs only [run_bind, run_some, run_none, run_map, a_var, a_c, a_op, a_un, a_chain, tst_b, a_test, a_and, a_or, a_not, a_andV, a_orV, a_notV, a_if, a_nil, a_cons, a_tup, a_lst, a_new, a_fn, a_isi, a_call, asI_i, a_part, a_noPart, a_cut, a_app, a_ext, a_index, a_sub, a_ps0, a_ps1, a_disp, a_lc, a_tt, a_skip, andThen_nx, andThen_rt, andThen_bk, andThen_ct, a_seq, a_expr, a_ret, a_retN, a_brk, a_cnt, a_ifS, a_set, a_aug, a_asg, two_eq, a_par, a_put, a_daug, a_for, a_scoped, frzO_nx, frzO_bk, frzO_ct, frzO_rt, frzS_d, frzS_r, frzE_nil, frzE_none, frzE_some, a_gN, a_gsNil, a_gsCons, a_gTp, asStr_s, a_strI, asRng_i, a_rng1, asRng2_i, a_rng2, chkOf_d, a_seqI, a_cYes, items_tup, items_lst, litems_lst, ditems_tup, ditems_lst, toD_d, dataAll_nil, dataAll_cons, dataAll_mapd, asD_d, v_ii, v_addI, v_addS, v_addT, v_addL, v_neg, v_ltI, v_ltS, v_eq, v_ne, v_inS, v_notInS, v_ixS, v_ixR, v_ixT, v_ixL, v_cutS, v_cutT, v_cutL, v_lenS, v_lenR, v_lenT, v_lenL, v_abs, v_int1, v_listT, v_listL, v_tupleT, v_tupleL, v_isN, v_notN, isN_non, isN_r, isN_bl, isN_int, isN_str, isN_tup, isN_lst, ty_non, ty_bl, ty_int, ty_str, ty_tup, ty_lst, keyOf_i, keyOf_s, gAddI_i, gSubI_i, index_s, idxKind_s, isDat_d, isDat_r, svB_d, svB_r, moB_lst, moB_dk, natAbs10, asL_l, asK_k, itL_l, liL_l, tdL_l, tdL_k, dsL_k, dsL_l, tyL_l, tyL_k, lstAt_r, dkAt_r, items_r, litems_r, toD_r, dkS_r, dkS_tup, dkS_lst, dkS_dk, dkS_str, tyS_r, v_ixRef, v_lenRef, v_cutRef, ditems_r, v_listRef, v_tupleRef, v_eqRef, v_neRef, v_addRR, v_addRL, v_addLR, finO_nx, finO_rt, finO_bk, finO_ct, isTy_int_NoneType, isTy_int_bool, isTy_int_int, isTy_int_str, isTy_int_tuple, isTy_int_list, isTy_int_dict, isTy_bool_NoneType, isTy_bool_bool, isTy_bool_int, isTy_bool_str, isTy_bool_tuple, isTy_bool_list, isTy_bool_dict, isTy_str_NoneType, isTy_str_bool, isTy_str_int, isTy_str_str, isTy_str_tuple, isTy_str_list, isTy_str_dict, isTy_tuple_NoneType, isTy_tuple_bool, isTy_tuple_int, isTy_tuple_str, isTy_tuple_tuple, isTy_tuple_list, isTy_tuple_dict, isTy_list_NoneType, isTy_list_bool, isTy_list_int, isTy_list_str, isTy_list_tuple, isTy_list_list, isTy_list_dict, isTy_dict_NoneType, isTy_dict_bool, isTy_dict_int, isTy_dict_str, isTy_dict_tuple, isTy_dict_list, isTy_dict_dict, eo_non, eo_bl, eo_int, eo_str, eo_tup, eo_lst, ev_nn, ev_ii, ev_bb, ev_ss, ev_tt, ev_ll, ea_nn, ea_nc, ea_cn, ea_cc, ea_mapd, ev_non_bl, ev_non_int, ev_non_str, ev_non_tup, ev_non_lst, ev_bl_non, ev_bl_str, ev_bl_tup, ev_bl_lst, ev_int_non, ev_int_str, ev_int_tup, ev_int_lst, ev_str_non, ev_str_bl, ev_str_int, ev_str_tup, ev_str_lst, ev_tup_non, ev_tup_bl, ev_tup_int, ev_tup_str, ev_tup_lst, ev_lst_non, ev_lst_bl, ev_lst_int, ev_lst_str, ev_lst_tup, wipeE_nil, wipeE_cons, cast_0, cast_1, cast_2, cast_3, cast_4, cast_5, cast_6, cast_7, cast_8, cast_9, cast_10, cast_11, cast_12, keysOf_nil, keysOf_cons, mergeS_nil, mergeS_cons, inR_s, sz_lt, sz_le, leq_nn, leq_nc, leq_cn, leq_cc, key_ss, key_ii, key_is, key_si, findK_nil, findK_cons, mapS_nil, mapS_cons, putS_nil, putS_cons, Option.bind_some, Option.map_some, Option.bind_none, Option.map_none, List.set_cons_zero, List.set_cons_succ, List.set_nil, List.getElem?_cons_zero, List.getElem?_cons_succ, List.length_cons, List.length_nil, List.nil_append, List.cons_append, List.map_cons, List.map_nil, if_true, if_false, Bool.false_eq_true, reduceIte, List.all_cons, List.all_nil, Bool.and_true, Bool.true_and, Bool.and_false, Bool.false_and, Bool.not_true, Bool.not_false, Bool.or_false, Bool.or_true, Bool.false_or, Bool.true_or, and_self, and_true, true_and, Int.toNat_natCast, decide_true, decide_false, List.take_zero, List.take_nil, List.take_succ_cons, List.drop_succ_cons, List.drop_zero, List.drop_nil, List.set_nil, List.replicate_succ, List.replicate_zero, List.foldl_cons, List.foldl_nil, Nat.reduceSub, Nat.reduceAdd, Nat.reduceLT, Nat.reduceLeDiff, Nat.reduceEqDiff, Nat.reduceMul, Int.reduceAdd, Int.reduceSub, Int.reduceMul, Int.reduceLT, Int.reduceLE, Int.reduceNeg, Int.reducePow, Int.reduceToNat, or_true, true_or, or_false, false_or, false_and, and_false, Nat.reducePow, not_true_eq_false, not_false_eq_true, Nat.add_zero, Nat.zero_add, Nat.sub_self, Nat.sub_zero, reduceCtorEq, Option.map_map, Int.reduceEq, Int.reduceNe, Int.reduceMod, Int.reduceDiv, List.append_nil, rngL_zero, at0, at1, at2]
      · simp -implicitDefEqProofs only [run_bind, run_some, run_none, run_map, a_var, a_c, a_op, a_un, a_chain, tst_b, a_test, a_and, a_or, a_not, a_andV, a_orV, a_notV, a_if, a_nil, a_cons, a_tup, a_lst, a_new, a_fn, a_isi, a_call, asI_i, a_part, a_noPart, a_cut, a_app, a_ext, a_index, a_sub, a_ps0, a_ps1, a_disp, a_lc, a_tt, a_skip, andThen_nx, andThen_rt, andThen_bk, andThen_ct, a_seq, a_expr, a_ret, a_retN, a_brk, a_cnt, a_ifS, a_set, a_aug, a_asg, two_eq, a_par, a_put, a_daug, a_for, a_scoped, frzO_nx, frzO_bk, frzO_ct, frzO_rt, frzS_d, frzS_r, frzE_nil, frzE_none, frzE_some, a_gN, a_gsNil, a_gsCons, a_gTp, asStr_s, a_strI, asRng_i, a_rng1, asRng2_i, a_rng2, chkOf_d, a_seqI, a_cYes, items_tup, items_lst, litems_lst, ditems_tup, ditems_lst, toD_d, dataAll_nil, dataAll_cons, dataAll_mapd, asD_d, v_ii, v_addI, v_addS, v_addT, v_addL, v_neg, v_ltI, v_ltS, v_eq, v_ne, v_inS, v_notInS, v_ixS, v_ixR, v_ixT, v_ixL, v_cutS, v_cutT, v_cutL, v_lenS, v_lenR, v_lenT, v_lenL, v_abs, v_int1, v_listT, v_listL, v_tupleT, v_tupleL, v_isN, v_notN, isN_non, isN_r, isN_bl, isN_int, isN_str, isN_tup, isN_lst, ty_non, ty_bl, ty_int, ty_str, ty_tup, ty_lst, keyOf_i, keyOf_s, gAddI_i, gSubI_i, index_s, idxKind_s, isDat_d, isDat_r, svB_d, svB_r, moB_lst, moB_dk, natAbs10, asL_l, asK_k, itL_l, liL_l, tdL_l, tdL_k, dsL_k, dsL_l, tyL_l, tyL_k, lstAt_r, dkAt_r, items_r, litems_r, toD_r, dkS_r, dkS_tup, dkS_lst, dkS_dk, dkS_str, tyS_r, v_ixRef, v_lenRef, v_cutRef, ditems_r, v_listRef, v_tupleRef, v_eqRef, v_neRef, v_addRR, v_addRL, v_addLR, finO_nx, finO_rt, finO_bk, finO_ct, isTy_int_NoneType, isTy_int_bool, isTy_int_int, isTy_int_str, isTy_int_tuple, isTy_int_list, isTy_int_dict, isTy_bool_NoneType, isTy_bool_bool, isTy_bool_int, isTy_bool_str, isTy_bool_tuple, isTy_bool_list, isTy_bool_dict, isTy_str_NoneType, isTy_str_bool, isTy_str_int, isTy_str_str, isTy_str_tuple, isTy_str_list, isTy_str_dict, isTy_tuple_NoneType, isTy_tuple_bool, isTy_tuple_int, isTy_tuple_str, isTy_tuple_tuple, isTy_tuple_list, isTy_tuple_dict, isTy_list_NoneType, isTy_list_bool, isTy_list_int, isTy_list_str, isTy_list_tuple, isTy_list_list, isTy_list_dict, isTy_dict_NoneType, isTy_dict_bool, isTy_dict_int, isTy_dict_str, isTy_dict_tuple, isTy_dict_list, isTy_dict_dict, eo_non, eo_bl, eo_int, eo_str, eo_tup, eo_lst, ev_nn, ev_ii, ev_bb, ev_ss, ev_tt, ev_ll, ea_nn, ea_nc, ea_cn, ea_cc, ea_mapd, ev_non_bl, ev_non_int, ev_non_str, ev_non_tup, ev_non_lst, ev_bl_non, ev_bl_str, ev_bl_tup, ev_bl_lst, ev_int_non, ev_int_str, ev_int_tup, ev_int_lst, ev_str_non, ev_str_bl, ev_str_int, ev_str_tup, ev_str_lst, ev_tup_non, ev_tup_bl, ev_tup_int, ev_tup_str, ev_tup_lst, ev_lst_non, ev_lst_bl, ev_lst_int, ev_lst_str, ev_lst_tup, wipeE_nil, wipeE_cons, cast_0, cast_1, cast_2, cast_3, cast_4, cast_5, cast_6, cast_7, cast_8, cast_9, cast_10, cast_11, cast_12, keysOf_nil, keysOf_cons, mergeS_nil, mergeS_cons, inR_s, sz_lt, sz_le, leq_nn, leq_nc, leq_cn, leq_cc, key_ss, key_ii, key_is, key_si, findK_nil, findK_cons, mapS_nil, mapS_cons, putS_nil, putS_cons, Option.bind_some, Option.map_some, Option.bind_none, Option.map_none, List.set_cons_zero, List.set_cons_succ, List.set_nil, List.getElem?_cons_zero, List.getElem?_cons_succ, List.length_cons, List.length_nil, List.nil_append, List.cons_append, List.map_cons, List.map_nil, if_true, if_false, Bool.false_eq_true, reduceIte, List.all_cons, List.all_nil, Bool.and_true, Bool.true_and, Bool.and_false, Bool.false_and, Bool.not_true, Bool.not_false, Bool.or_false, Bool.or_true, Bool.false_or, Bool.true_or, and_self, and_true, true_and, Int.toNat_natCast, decide_true, decide_false, List.take_zero, List.take_nil, List.take_succ_cons, List.drop_succ_cons, List.drop_zero, List.drop_nil, List.set_nil, List.replicate_succ, List.replicate_zero, List.foldl_cons, List.foldl_nil, Nat.reduceSub, Nat.reduceAdd, Nat.reduceLT, Nat.reduceLeDiff, Nat.reduceEqDiff, Nat.reduceMul, Int.reduceAdd, Int.reduceSub, Int.reduceMul, Int.reduceLT, Int.reduceLE, Int.reduceNeg, Int.reducePow, Int.reduceToNat, or_true, true_or, or_false, false_or, false_and, and_false, Nat.reducePow, not_true_eq_false, not_false_eq_true, Nat.add_zero, Nat.zero_add, Nat.sub_self, Nat.sub_zero, reduceCtorEq, Option.map_map, Int.reduceEq, Int.reduceNe, Int.reduceMod, Int.reduceDiv, List.append_nil, rngL_zero, at0, at1, at2, atI_lt hj, atI_mapn hj2]
        simp [hj, hj2]
  · rintro δ st ⟨o3, o4, rfl, rfl, k3, k4⟩
    refine ⟨o3, o4, ?_, k3, k4⟩
    simp
  · rintro p ⟨o3, o4, rfl, k3, k4⟩
    simp -implicitDefEqProofs only [run_bind, run_some, run_none, run_map, a_var, a_c, a_op, a_un, a_chain, tst_b, a_test, a_and, a_or, a_not, a_andV, a_orV, a_notV, a_if, a_nil, a_cons, a_tup, a_lst, a_new, a_fn, a_isi, a_call, asI_i, a_part, a_noPart, a_cut, a_app, a_ext, a_index, a_sub, a_ps0, a_ps1, a_disp, a_lc, a_tt, a_skip, andThen_nx, andThen_rt, andThen_bk, andThen_ct, a_seq, a_expr, a_ret, a_retN, a_brk, a_cnt, a_ifS, a_set, a_aug, a_asg, two_eq, a_par, a_put, a_daug, a_for, a_scoped, frzO_nx, frzO_bk, frzO_ct, frzO_rt, frzS_d, frzS_r, frzE_nil, frzE_none, frzE_some, a_gN, a_gsNil, a_gsCons, a_gTp, asStr_s, a_strI, asRng_i, a_rng1, asRng2_i, a_rng2, chkOf_d, a_seqI, a_cYes, items_tup, items_lst, litems_lst, ditems_tup, ditems_lst, toD_d, dataAll_nil, dataAll_cons, dataAll_mapd, asD_d, v_ii, v_addI, v_addS, v_addT, v_addL, v_neg, v_ltI, v_ltS, v_eq, v_ne, v_inS, v_notInS, v_ixS, v_ixR, v_ixT, v_ixL, v_cutS, v_cutT, v_cutL, v_lenS, v_lenR, v_lenT, v_lenL, v_abs, v_int1, v_listT, v_listL, v_tupleT, v_tupleL, v_isN, v_notN, isN_non, isN_r, isN_bl, isN_int, isN_str, isN_tup, isN_lst, ty_non, ty_bl, ty_int, ty_str, ty_tup, ty_lst, keyOf_i, keyOf_s, gAddI_i, gSubI_i, index_s, idxKind_s, isDat_d, isDat_r, svB_d, svB_r, moB_lst, moB_dk, natAbs10, asL_l, asK_k, itL_l, liL_l, tdL_l, tdL_k, dsL_k, dsL_l, tyL_l, tyL_k, lstAt_r, dkAt_r, items_r, litems_r, toD_r, dkS_r, dkS_tup, dkS_lst, dkS_dk, dkS_str, tyS_r, v_ixRef, v_lenRef, v_cutRef, ditems_r, v_listRef, v_tupleRef, v_eqRef, v_neRef, v_addRR, v_addRL, v_addLR, finO_nx, finO_rt, finO_bk, finO_ct, isTy_int_NoneType, isTy_int_bool, isTy_int_int, isTy_int_str, isTy_int_tuple, isTy_int_list, isTy_int_dict, isTy_bool_NoneType, isTy_bool_bool, isTy_bool_int, isTy_bool_str, isTy_bool_tuple, isTy_bool_list, isTy_bool_dict, isTy_str_NoneType, isTy_str_bool, isTy_str_int, isTy_str_str, isTy_str_tuple, isTy_str_list, isTy_str_dict, isTy_tuple_NoneType, isTy_tuple_bool, isTy_tuple_int, isTy_tuple_str, isTy_tuple_tuple, isTy_tuple_list, isTy_tuple_dict, isTy_list_NoneType, isTy_list_bool, isTy_list_int, isTy_list_str, isTy_list_tuple, isTy_list_list, isTy_list_dict, isTy_dict_NoneType, isTy_dict_bool, isTy_dict_int, isTy_dict_str, isTy_dict_tuple, isTy_dict_list, isTy_dict_dict, eo_non, eo_bl, eo_int, eo_str, eo_tup, eo_lst, ev_nn, ev_ii, ev_bb, ev_ss, ev_tt, ev_ll, ea_nn, ea_nc, ea_cn, ea_cc, ea_mapd, ev_non_bl, ev_non_int, ev_non_str, ev_non_tup, ev_non_lst, ev_bl_non, ev_bl_str, ev_bl_tup, ev_bl_lst, ev_int_non, ev_int_str, ev_int_tup, ev_int_lst, ev_str_non, ev_str_bl, ev_str_int, ev_str_tup, ev_str_lst, ev_tup_non, ev_tup_bl, ev_tup_int, ev_tup_str, ev_tup_lst, ev_lst_non, ev_lst_bl, ev_lst_int, ev_lst_str, ev_lst_tup, wipeE_nil, wipeE_cons, cast_0, cast_1, cast_2, cast_3, cast_4, cast_5, cast_6, cast_7, cast_8, cast_9, cast_10, cast_11, cast_12, keysOf_nil, keysOf_cons, mergeS_nil, mergeS_cons, inR_s, sz_lt, sz_le, leq_nn, leq_nc, leq_cn, leq_cc, key_ss, key_ii, key_is, key_si, findK_nil, findK_cons, mapS_nil, mapS_cons, putS_nil, putS_cons, Option.bind_some, Option.map_some, Option.bind_none, Option.map_none, List.set_cons_zero, List.set_cons_succ, List.set_nil, List.getElem?_cons_zero, List.getElem?_cons_succ, List.length_cons, List.length_nil, List.nil_append, List.cons_append, List.map_cons, List.map_nil, if_true, if_false, Bool.false_eq_true, reduceIte, List.all_cons, List.all_nil, Bool.and_true, Bool.true_and, Bool.and_false, Bool.false_and, Bool.not_true, Bool.not_false, Bool.or_false, Bool.or_true, Bool.false_or, Bool.true_or, and_self, and_true, true_and, Int.toNat_natCast, decide_true, decide_false, List.take_zero, List.take_nil, List.take_succ_cons, List.drop_succ_cons, List.drop_zero, List.drop_nil, List.set_nil, List.replicate_succ, List.replicate_zero, List.foldl_cons, List.foldl_nil, Nat.reduceSub, Nat.reduceAdd, Nat.reduceLT, Nat.reduceLeDiff, Nat.reduceEqDiff, Nat.reduceMul, Int.reduceAdd, Int.reduceSub, Int.reduceMul, Int.reduceLT, Int.reduceLE, Int.reduceNeg, Int.reducePow, Int.reduceToNat, or_true, true_or, or_false, false_or, false_and, and_false, Nat.reducePow, not_true_eq_false, not_false_eq_true, Nat.add_zero, Nat.zero_add, Nat.sub_self, Nat.sub_zero, reduceCtorEq, Option.map_map, Int.reduceEq, Int.reduceNe, Int.reduceMod, Int.reduceDiv, List.append_nil, rngL_zero, at0, at1, at2, frzE_okO k3, frzE_okO k4]
theorem zip_fil : ∀ {ord : List Nat} {r : List (Nat × Nat)} {c : Nat}, ord.Nodup → r.length = ord.length → c ∈ ord → ∃ h : ord.idxOf c < r.length, (ord.zip r).filter (fun x => decide (x.1 = c)) = [(c, r[ord.idxOf c])]
  | [], _, _, _, _, h => nomatch h
  | a :: ord, [], c, _, h, _ => by simp at h
  | a :: ord, p :: r, c, hn, hl, hc => by
    rw [List.nodup_cons] at hn
    by_cases e : a = c
    · subst e
      have h0 : (a :: ord).idxOf a = 0 := by simp
      have h1 : ∀ x ∈ ord.zip r, ¬ decide (x.1 = a) = true := by
        intro x hx h
        have := of_decide_eq_true h
        exact hn.1 (this ▸ (List.of_mem_zip hx).1)
      have h2 : (ord.zip r).filter (fun x => decide (x.1 = a)) = [] := List.filter_eq_nil_iff.mpr h1
      refine ⟨by rw [h0]; simp, ?_⟩
      simp [h2]
    · have hc' : c ∈ ord := (List.mem_cons.mp hc).resolve_left fun h => e h.symm
      obtain ⟨h, h1⟩ := zip_fil hn.2 (by simpa using hl) hc'
      have h0 : (a :: ord).idxOf c = ord.idxOf c + 1 := by rw [List.idxOf_cons, beq_false_of_ne e]; rfl
      refine ⟨by rw [h0]; simpa using h, ?_⟩
      simp [e, h1, h0]
theorem p_stepped {b : Bx} {ord : List Nat} (hb : okB b ord.length) (hd : ord.Nodup) (hn : ord.length ≤ 100) (row : List Nat) (hr : ∀ c ∈ row, c ∈ ord) (hz : row.length ≤ 100) :
    F__law_stepped [.d (sD ord b), .d (.str row)] [] = some (.d (.str (runB b ord 0 row).1), []) := by
  have hle := hb.le
  have h0 : 0 < b.length := List.length_pos_iff.mpr hb.ne
  unfold F__law_stepped g__law_stepped
  rw [a_runF]
  apply Run.eq
  simp -implicitDefEqProofs only [run_bind, run_some, run_none, run_map, a_var, a_c, a_op, a_un, a_chain, tst_b, a_test, a_and, a_or, a_not, a_andV, a_orV, a_notV, a_if, a_nil, a_cons, a_tup, a_lst, a_new, a_fn, a_isi, a_call, asI_i, a_part, a_noPart, a_cut, a_app, a_ext, a_index, a_sub, a_ps0, a_ps1, a_disp, a_lc, a_tt, a_skip, andThen_nx, andThen_rt, andThen_bk, andThen_ct, a_seq, a_expr, a_ret, a_retN, a_brk, a_cnt, a_ifS, a_set, a_aug, a_asg, two_eq, a_par, a_put, a_daug, a_for, a_scoped, frzO_nx, frzO_bk, frzO_ct, frzO_rt, frzS_d, frzS_r, frzE_nil, frzE_none, frzE_some, a_gN, a_gsNil, a_gsCons, a_gTp, asStr_s, a_strI, asRng_i, a_rng1, asRng2_i, a_rng2, chkOf_d, a_seqI, a_cYes, items_tup, items_lst, litems_lst, ditems_tup, ditems_lst, toD_d, dataAll_nil, dataAll_cons, dataAll_mapd, asD_d, v_ii, v_addI, v_addS, v_addT, v_addL, v_neg, v_ltI, v_ltS, v_eq, v_ne, v_inS, v_notInS, v_ixS, v_ixR, v_ixT, v_ixL, v_cutS, v_cutT, v_cutL, v_lenS, v_lenR, v_lenT, v_lenL, v_abs, v_int1, v_listT, v_listL, v_tupleT, v_tupleL, v_isN, v_notN, isN_non, isN_r, isN_bl, isN_int, isN_str, isN_tup, isN_lst, ty_non, ty_bl, ty_int, ty_str, ty_tup, ty_lst, keyOf_i, keyOf_s, gAddI_i, gSubI_i, index_s, idxKind_s, isDat_d, isDat_r, svB_d, svB_r, moB_lst, moB_dk, natAbs10, asL_l, asK_k, itL_l, liL_l, tdL_l, tdL_k, dsL_k, dsL_l, tyL_l, tyL_k, lstAt_r, dkAt_r, items_r, litems_r, toD_r, dkS_r, dkS_tup, dkS_lst, dkS_dk, dkS_str, tyS_r, v_ixRef, v_lenRef, v_cutRef, ditems_r, v_listRef, v_tupleRef, v_eqRef, v_neRef, v_addRR, v_addRL, v_addLR, finO_nx, finO_rt, finO_bk, finO_ct, isTy_int_NoneType, isTy_int_bool, isTy_int_int, isTy_int_str, isTy_int_tuple, isTy_int_list, isTy_int_dict, isTy_bool_NoneType, isTy_bool_bool, isTy_bool_int, isTy_bool_str, isTy_bool_tuple, isTy_bool_list, isTy_bool_dict, isTy_str_NoneType, isTy_str_bool, isTy_str_int, isTy_str_str, isTy_str_tuple, isTy_str_list, isTy_str_dict, isTy_tuple_NoneType, isTy_tuple_bool, isTy_tuple_int, isTy_tuple_str, isTy_tuple_tuple, isTy_tuple_list, isTy_tuple_dict, isTy_list_NoneType, isTy_list_bool, isTy_list_int, isTy_list_str, isTy_list_tuple, isTy_list_list, isTy_list_dict, isTy_dict_NoneType, isTy_dict_bool, isTy_dict_int, isTy_dict_str, isTy_dict_tuple, isTy_dict_list, isTy_dict_dict, eo_non, eo_bl, eo_int, eo_str, eo_tup, eo_lst, ev_nn, ev_ii, ev_bb, ev_ss, ev_tt, ev_ll, ea_nn, ea_nc, ea_cn, ea_cc, ea_mapd, ev_non_bl, ev_non_int, ev_non_str, ev_non_tup, ev_non_lst, ev_bl_non, ev_bl_str, ev_bl_tup, ev_bl_lst, ev_int_non, ev_int_str, ev_int_tup, ev_int_lst, ev_str_non, ev_str_bl, ev_str_int, ev_str_tup, ev_str_lst, ev_tup_non, ev_tup_bl, ev_tup_int, ev_tup_str, ev_tup_lst, ev_lst_non, ev_lst_bl, ev_lst_int, ev_lst_str, ev_lst_tup, wipeE_nil, wipeE_cons, cast_0, cast_1, cast_2, cast_3, cast_4, cast_5, cast_6, cast_7, cast_8, cast_9, cast_10, cast_11, cast_12, keysOf_nil, keysOf_cons, mergeS_nil, mergeS_cons, inR_s, sz_lt, sz_le, leq_nn, leq_nc, leq_cn, leq_cc, key_ss, key_ii, key_is, key_si, findK_nil, findK_cons, mapS_nil, mapS_cons, putS_nil, putS_cons, Option.bind_some, Option.map_some, Option.bind_none, Option.map_none, List.set_cons_zero, List.set_cons_succ, List.set_nil, List.getElem?_cons_zero, List.getElem?_cons_succ, List.length_cons, List.length_nil, List.nil_append, List.cons_append, List.map_cons, List.map_nil, if_true, if_false, Bool.false_eq_true, reduceIte, List.all_cons, List.all_nil, Bool.and_true, Bool.true_and, Bool.and_false, Bool.false_and, Bool.not_true, Bool.not_false, Bool.or_false, Bool.or_true, Bool.false_or, Bool.true_or, and_self, and_true, true_and, Int.toNat_natCast, decide_true, decide_false, List.take_zero, List.take_nil, List.take_succ_cons, List.drop_succ_cons, List.drop_zero, List.drop_nil, List.set_nil, List.replicate_succ, List.replicate_zero, List.foldl_cons, List.foldl_nil, Nat.reduceSub, Nat.reduceAdd, Nat.reduceLT, Nat.reduceLeDiff, Nat.reduceEqDiff, Nat.reduceMul, Int.reduceAdd, Int.reduceSub, Int.reduceMul, Int.reduceLT, Int.reduceLE, Int.reduceNeg, Int.reducePow, Int.reduceToNat, or_true, true_or, or_false, false_or, false_and, and_false, Nat.reducePow, not_true_eq_false, not_false_eq_true, Nat.add_zero, Nat.zero_add, Nat.sub_self, Nat.sub_zero, reduceCtorEq, Option.map_map, Int.reduceEq, Int.reduceNe, Int.reduceMod, Int.reduceDiv, List.append_nil, rngL_zero, at0, at1, at2]
  refine (forL_wp _ (fun i δ st => ∃ (q' : Nat) (out : List Nat) (o4 o5 : Option SV), δ = [some (.d (sD ord b)), some (.d (.str row)), some (.d (.str out)), some (.d (.int q')), o4, o5, none, none] ∧ st = [] ∧ q' < b.length ∧ out.length = i ∧ okO o4 ∧ okO o5 ∧
      out ++ (runB b ord q' (row.drop i)).1 = (runB b ord 0 row).1)
    (R := fun p => ∃ (q' : Nat) (o4 o5 : Option SV), p = (.nx, [some (.d (sD ord b)), some (.d (.str row)), some (.d (.str (runB b ord 0 row).1)), some (.d (.int q')), o4, o5, none, none], []) ∧ (runB b ord 0 row).1.length = row.length ∧ q' < b.length ∧ okO o4 ∧ okO o5) ⟨0, [], none, none, rfl, rfl, h0, rfl, okO_none, okO_none, rfl⟩ ?_ ?_).mono ?_
  · rintro i s δ st hs ⟨q', out, o5, o6, rfl, rfl, hq', ho, k5, k6, e1⟩
    obtain ⟨hi, rfl⟩ := map_get hs
    have hc := hr _ (List.getElem_mem hi)
    obtain ⟨h1, h2, h3⟩ := stepB_eq hb hq' hc
    rw [List.drop_eq_getElem_cons hi] at e1
    rw [runB_cons, h2] at e1
    rw [h2] at h3
    have hsz : out.length + 1 ≤ 100000 := by omega
    simp -implicitDefEqProofs only [run_bind, run_some, run_none, run_map, a_var, a_c, a_op, a_un, a_chain, tst_b, a_test, a_and, a_or, a_not, a_andV, a_orV, a_notV, a_if, a_nil, a_cons, a_tup, a_lst, a_new, a_fn, a_isi, a_call, asI_i, a_part, a_noPart, a_cut, a_app, a_ext, a_index, a_sub, a_ps0, a_ps1, a_disp, a_lc, a_tt, a_skip, andThen_nx, andThen_rt, andThen_bk, andThen_ct, a_seq, a_expr, a_ret, a_retN, a_brk, a_cnt, a_ifS, a_set, a_aug, a_asg, two_eq, a_par, a_put, a_daug, a_for, a_scoped, frzO_nx, frzO_bk, frzO_ct, frzO_rt, frzS_d, frzS_r, frzE_nil, frzE_none, frzE_some, a_gN, a_gsNil, a_gsCons, a_gTp, asStr_s, a_strI, asRng_i, a_rng1, asRng2_i, a_rng2, chkOf_d, a_seqI, a_cYes, items_tup, items_lst, litems_lst, ditems_tup, ditems_lst, toD_d, dataAll_nil, dataAll_cons, dataAll_mapd, asD_d, v_ii, v_addI, v_addS, v_addT, v_addL, v_neg, v_ltI, v_ltS, v_eq, v_ne, v_inS, v_notInS, v_ixS, v_ixR, v_ixT, v_ixL, v_cutS, v_cutT, v_cutL, v_lenS, v_lenR, v_lenT, v_lenL, v_abs, v_int1, v_listT, v_listL, v_tupleT, v_tupleL, v_isN, v_notN, isN_non, isN_r, isN_bl, isN_int, isN_str, isN_tup, isN_lst, ty_non, ty_bl, ty_int, ty_str, ty_tup, ty_lst, keyOf_i, keyOf_s, gAddI_i, gSubI_i, index_s, idxKind_s, isDat_d, isDat_r, svB_d, svB_r, moB_lst, moB_dk, natAbs10, asL_l, asK_k, itL_l, liL_l, tdL_l, tdL_k, dsL_k, dsL_l, tyL_l, tyL_k, lstAt_r, dkAt_r, items_r, litems_r, toD_r, dkS_r, dkS_tup, dkS_lst, dkS_dk, dkS_str, tyS_r, v_ixRef, v_lenRef, v_cutRef, ditems_r, v_listRef, v_tupleRef, v_eqRef, v_neRef, v_addRR, v_addRL, v_addLR, finO_nx, finO_rt, finO_bk, finO_ct, isTy_int_NoneType, isTy_int_bool, isTy_int_int, isTy_int_str, isTy_int_tuple, isTy_int_list, isTy_int_dict, isTy_bool_NoneType, isTy_bool_bool, isTy_bool_int, isTy_bool_str, isTy_bool_tuple, isTy_bool_list, isTy_bool_dict, isTy_str_NoneType, isTy_str_bool, isTy_str_int, isTy_str_str, isTy_str_tuple, isTy_str_list, isTy_str_dict, isTy_tuple_NoneType, isTy_tuple_bool, isTy_tuple_int, isTy_tuple_str, isTy_tuple_tuple, isTy_tuple_list, isTy_tuple_dict, isTy_list_NoneType, isTy_list_bool, isTy_list_int, isTy_list_str, isTy_list_tuple, isTy_list_list, isTy_list_dict, isTy_dict_NoneType, isTy_dict_bool, isTy_dict_int, isTy_dict_str, isTy_dict_tuple, isTy_dict_list, isTy_dict_dict, eo_non, eo_bl, eo_int, eo_str, eo_tup, eo_lst, ev_nn, ev_ii, ev_bb, ev_ss, ev_tt, ev_ll, ea_nn, ea_nc, ea_cn, ea_cc, ea_mapd, ev_non_bl, ev_non_int, ev_non_str, ev_non_tup, ev_non_lst, ev_bl_non, ev_bl_str, ev_bl_tup, ev_bl_lst, ev_int_non, ev_int_str, ev_int_tup, ev_int_lst, ev_str_non, ev_str_bl, ev_str_int, ev_str_tup, ev_str_lst, ev_tup_non, ev_tup_bl, ev_tup_int, ev_tup_str, ev_tup_lst, ev_lst_non, ev_lst_bl, ev_lst_int, ev_lst_str, ev_lst_tup, wipeE_nil, wipeE_cons, cast_0, cast_1, cast_2, cast_3, cast_4, cast_5, cast_6, cast_7, cast_8, cast_9, cast_10, cast_11, cast_12, keysOf_nil, keysOf_cons, mergeS_nil, mergeS_cons, inR_s, sz_lt, sz_le, leq_nn, leq_nc, leq_cn, leq_cc, key_ss, key_ii, key_is, key_si, findK_nil, findK_cons, mapS_nil, mapS_cons, putS_nil, putS_cons, Option.bind_some, Option.map_some, Option.bind_none, Option.map_none, List.set_cons_zero, List.set_cons_succ, List.set_nil, List.getElem?_cons_zero, List.getElem?_cons_succ, List.length_cons, List.length_nil, List.nil_append, List.cons_append, List.map_cons, List.map_nil, if_true, if_false, Bool.false_eq_true, reduceIte, List.all_cons, List.all_nil, Bool.and_true, Bool.true_and, Bool.and_false, Bool.false_and, Bool.not_true, Bool.not_false, Bool.or_false, Bool.or_true, Bool.false_or, Bool.true_or, and_self, and_true, true_and, Int.toNat_natCast, decide_true, decide_false, List.take_zero, List.take_nil, List.take_succ_cons, List.drop_succ_cons, List.drop_zero, List.drop_nil, List.set_nil, List.replicate_succ, List.replicate_zero, List.foldl_cons, List.foldl_nil, Nat.reduceSub, Nat.reduceAdd, Nat.reduceLT, Nat.reduceLeDiff, Nat.reduceEqDiff, Nat.reduceMul, Int.reduceAdd, Int.reduceSub, Int.reduceMul, Int.reduceLT, Int.reduceLE, Int.reduceNeg, Int.reducePow, Int.reduceToNat, or_true, true_or, or_false, false_or, false_and, and_false, Nat.reducePow, not_true_eq_false, not_false_eq_true, Nat.add_zero, Nat.zero_add, Nat.sub_self, Nat.sub_zero, reduceCtorEq, Option.map_map, Int.reduceEq, Int.reduceNe, Int.reduceMod, Int.reduceDiv, List.append_nil, rngL_zero, at0, at1, at2, atI_mapn hq', List.map_map]
    rw [lcL_fil (SV.d ∘ fun x : Nat × (Nat × Nat) => sP x.1 x.2) (fun x => decide (x.1 = row[i])) (fun x => sP x.1 x.2) _ _ (by simp; omega)]
    · obtain ⟨g1, g2⟩ := zip_fil hd (hb.row _ (List.getElem_mem hq')) hc
      simp -implicitDefEqProofs only [run_bind, run_some, run_none, run_map, a_var, a_c, a_op, a_un, a_chain, tst_b, a_test, a_and, a_or, a_not, a_andV, a_orV, a_notV, a_if, a_nil, a_cons, a_tup, a_lst, a_new, a_fn, a_isi, a_call, asI_i, a_part, a_noPart, a_cut, a_app, a_ext, a_index, a_sub, a_ps0, a_ps1, a_disp, a_lc, a_tt, a_skip, andThen_nx, andThen_rt, andThen_bk, andThen_ct, a_seq, a_expr, a_ret, a_retN, a_brk, a_cnt, a_ifS, a_set, a_aug, a_asg, two_eq, a_par, a_put, a_daug, a_for, a_scoped, frzO_nx, frzO_bk, frzO_ct, frzO_rt, frzS_d, frzS_r, frzE_nil, frzE_none, frzE_some, a_gN, a_gsNil, a_gsCons, a_gTp, asStr_s, a_strI, asRng_i, a_rng1, asRng2_i, a_rng2, chkOf_d, a_seqI, a_cYes, items_tup, items_lst, litems_lst, ditems_tup, ditems_lst, toD_d, dataAll_nil, dataAll_cons, dataAll_mapd, asD_d, v_ii, v_addI, v_addS, v_addT, v_addL, v_neg, v_ltI, v_ltS, v_eq, v_ne, v_inS, v_notInS, v_ixS, v_ixR, v_ixT, v_ixL, v_cutS, v_cutT, v_cutL, v_lenS, v_lenR, v_lenT, v_lenL, v_abs, v_int1, v_listT, v_listL, v_tupleT, v_tupleL, v_isN, v_notN, isN_non, isN_r, isN_bl, isN_int, isN_str, isN_tup, isN_lst, ty_non, ty_bl, ty_int, ty_str, ty_tup, ty_lst, keyOf_i, keyOf_s, gAddI_i, gSubI_i, index_s, idxKind_s, isDat_d, isDat_r, svB_d, svB_r, moB_lst, moB_dk, natAbs10, asL_l, asK_k, itL_l, liL_l, tdL_l, tdL_k, dsL_k, dsL_l, tyL_l, tyL_k, lstAt_r, dkAt_r, items_r, litems_r, toD_r, dkS_r, dkS_tup, dkS_lst, dkS_dk, dkS_str, tyS_r, v_ixRef, v_lenRef, v_cutRef, ditems_r, v_listRef, v_tupleRef, v_eqRef, v_neRef, v_addRR, v_addRL, v_addLR, finO_nx, finO_rt, finO_bk, finO_ct, isTy_int_NoneType, isTy_int_bool, isTy_int_int, isTy_int_str, isTy_int_tuple, isTy_int_list, isTy_int_dict, isTy_bool_NoneType, isTy_bool_bool, isTy_bool_int, isTy_bool_str, isTy_bool_tuple, isTy_bool_list, isTy_bool_dict, isTy_str_NoneType, isTy_str_bool, isTy_str_int, isTy_str_str, isTy_str_tuple, isTy_str_list, isTy_str_dict, isTy_tuple_NoneType, isTy_tuple_bool, isTy_tuple_int, isTy_tuple_str, isTy_tuple_tuple, isTy_tuple_list, isTy_tuple_dict, isTy_list_NoneType, isTy_list_bool, isTy_list_int, isTy_list_str, isTy_list_tuple, isTy_list_list, isTy_list_dict, isTy_dict_NoneType, isTy_dict_bool, isTy_dict_int, isTy_dict_str, isTy_dict_tuple, isTy_dict_list, isTy_dict_dict, eo_non, eo_bl, eo_int, eo_str, eo_tup, eo_lst, ev_nn, ev_ii, ev_bb, ev_ss, ev_tt, ev_ll, ea_nn, ea_nc, ea_cn, ea_cc, ea_mapd, ev_non_bl, ev_non_int, ev_non_str, ev_non_tup, ev_non_lst, ev_bl_non, ev_bl_str, ev_bl_tup, ev_bl_lst, ev_int_non, ev_int_str, ev_int_tup, ev_int_lst, ev_str_non, ev_str_bl, ev_str_int, ev_str_tup, ev_str_lst, ev_tup_non, ev_tup_bl, ev_tup_int, ev_tup_str, ev_tup_lst, ev_lst_non, ev_lst_bl, ev_lst_int, ev_lst_str, ev_lst_tup, wipeE_nil, wipeE_cons, cast_0, cast_1, cast_2, cast_3, cast_4, cast_5, cast_6, cast_7, cast_8, cast_9, cast_10, cast_11, cast_12, keysOf_nil, keysOf_cons, mergeS_nil, mergeS_cons, inR_s, sz_lt, sz_le, leq_nn, leq_nc, leq_cn, leq_cc, key_ss, key_ii, key_is, key_si, findK_nil, findK_cons, mapS_nil, mapS_cons, putS_nil, putS_cons, Option.bind_some, Option.map_some, Option.bind_none, Option.map_none, List.set_cons_zero, List.set_cons_succ, List.set_nil, List.getElem?_cons_zero, List.getElem?_cons_succ, List.length_cons, List.length_nil, List.nil_append, List.cons_append, List.map_cons, List.map_nil, if_true, if_false, Bool.false_eq_true, reduceIte, List.all_cons, List.all_nil, Bool.and_true, Bool.true_and, Bool.and_false, Bool.false_and, Bool.not_true, Bool.not_false, Bool.or_false, Bool.or_true, Bool.false_or, Bool.true_or, and_self, and_true, true_and, Int.toNat_natCast, decide_true, decide_false, List.take_zero, List.take_nil, List.take_succ_cons, List.drop_succ_cons, List.drop_zero, List.drop_nil, List.set_nil, List.replicate_succ, List.replicate_zero, List.foldl_cons, List.foldl_nil, Nat.reduceSub, Nat.reduceAdd, Nat.reduceLT, Nat.reduceLeDiff, Nat.reduceEqDiff, Nat.reduceMul, Int.reduceAdd, Int.reduceSub, Int.reduceMul, Int.reduceLT, Int.reduceLE, Int.reduceNeg, Int.reducePow, Int.reduceToNat, or_true, true_or, or_false, false_or, false_and, and_false, Nat.reducePow, not_true_eq_false, not_false_eq_true, Nat.add_zero, Nat.zero_add, Nat.sub_self, Nat.sub_zero, reduceCtorEq, Option.map_map, Int.reduceEq, Int.reduceNe, Int.reduceMod, Int.reduceDiv, List.append_nil, rngL_zero, at0, at1, at2, g2, sz_le hsz]
      refine ⟨_, _, _, _, rfl, h3, by simp [ho], okO_d _, okO_d _, ?_⟩
      rw [← e1]
      simp
    · intro x hx
      refine ⟨_, rfl, ?_, fun _ => ?_⟩
      · simp -implicitDefEqProofs only [run_bind, run_some, run_none, run_map, a_var, a_c, a_op, a_un, a_chain, tst_b, a_test, a_and, a_or, a_not, a_andV, a_orV, a_notV, a_if, a_nil, a_cons, a_tup, a_lst, a_new, a_fn, a_isi, a_call, asI_i, a_part, a_noPart, a_cut, a_app, a_ext, a_index, a_sub, a_ps0, a_ps1, a_disp, a_lc, a_tt, a_skip, andThen_nx, andThen_rt, andThen_bk, andThen_ct, a_seq, a_expr, a_ret, a_retN, a_brk, a_cnt, a_ifS, a_set, a_aug, a_asg, two_eq, a_par, a_put, a_daug, a_for, a_scoped, frzO_nx, frzO_bk, frzO_ct, frzO_rt, frzS_d, frzS_r, frzE_nil, frzE_none, frzE_some, a_gN, a_gsNil, a_gsCons, a_gTp, asStr_s, a_strI, asRng_i, a_rng1, asRng2_i, a_rng2, chkOf_d, a_seqI, a_cYes, items_tup, items_lst, litems_lst, ditems_tup, ditems_lst, toD_d, dataAll_nil, dataAll_cons, dataAll_mapd, asD_d, v_ii, v_addI, v_addS, v_addT, v_addL, v_neg, v_ltI, v_ltS, v_eq, v_ne, v_inS, v_notInS, v_ixS, v_ixR, v_ixT, v_ixL, v_cutS, v_cutT, v_cutL, v_lenS, v_lenR, v_lenT, v_lenL, v_abs, v_int1, v_listT, v_listL, v_tupleT, v_tupleL, v_isN, v_notN, isN_non, isN_r, isN_bl, isN_int, isN_str, isN_tup, isN_lst, ty_non, ty_bl, ty_int, ty_str, ty_tup, ty_lst, keyOf_i, keyOf_s, gAddI_i, gSubI_i, index_s, idxKind_s, isDat_d, isDat_r, svB_d, svB_r, moB_lst, moB_dk, natAbs10, asL_l, asK_k, itL_l, liL_l, tdL_l, tdL_k, dsL_k, dsL_l, tyL_l, tyL_k, lstAt_r, dkAt_r, items_r, litems_r, toD_r, dkS_r, dkS_tup, dkS_lst, dkS_dk, dkS_str, tyS_r, v_ixRef, v_lenRef, v_cutRef, ditems_r, v_listRef, v_tupleRef, v_eqRef, v_neRef, v_addRR, v_addRL, v_addLR, finO_nx, finO_rt, finO_bk, finO_ct, isTy_int_NoneType, isTy_int_bool, isTy_int_int, isTy_int_str, isTy_int_tuple, isTy_int_list, isTy_int_dict, isTy_bool_NoneType, isTy_bool_bool, isTy_bool_int, isTy_bool_str, isTy_bool_tuple, isTy_bool_list, isTy_bool_dict, isTy_str_NoneType, isTy_str_bool, isTy_str_int, isTy_str_str, isTy_str_tuple, isTy_str_list, isTy_str_dict, isTy_tuple_NoneType, isTy_tuple_bool, isTy_tuple_int, isTy_tuple_str, isTy_tuple_tuple, isTy_tuple_list, isTy_tuple_dict, isTy_list_NoneType, isTy_list_bool, isTy_list_int, isTy_list_str, isTy_list_tuple, isTy_list_list, isTy_list_dict, isTy_dict_NoneType, isTy_dict_bool, isTy_dict_int, isTy_dict_str, isTy_dict_tuple, isTy_dict_list, isTy_dict_dict, eo_non, eo_bl, eo_int, eo_str, eo_tup, eo_lst, ev_nn, ev_ii, ev_bb, ev_ss, ev_tt, ev_ll, ea_nn, ea_nc, ea_cn, ea_cc, ea_mapd, ev_non_bl, ev_non_int, ev_non_str, ev_non_tup, ev_non_lst, ev_bl_non, ev_bl_str, ev_bl_tup, ev_bl_lst, ev_int_non, ev_int_str, ev_int_tup, ev_int_lst, ev_str_non, ev_str_bl, ev_str_int, ev_str_tup, ev_str_lst, ev_tup_non, ev_tup_bl, ev_tup_int, ev_tup_str, ev_tup_lst, ev_lst_non, ev_lst_bl, ev_lst_int, ev_lst_str, ev_lst_tup, wipeE_nil, wipeE_cons, cast_0, cast_1, cast_2, cast_3, cast_4, cast_5, cast_6, cast_7, cast_8, cast_9, cast_10, cast_11, cast_12, keysOf_nil, keysOf_cons, mergeS_nil, mergeS_cons, inR_s, sz_lt, sz_le, leq_nn, leq_nc, leq_cn, leq_cc, key_ss, key_ii, key_is, key_si, findK_nil, findK_cons, mapS_nil, mapS_cons, putS_nil, putS_cons, Option.bind_some, Option.map_some, Option.bind_none, Option.map_none, List.set_cons_zero, List.set_cons_succ, List.set_nil, List.getElem?_cons_zero, List.getElem?_cons_succ, List.length_cons, List.length_nil, List.nil_append, List.cons_append, List.map_cons, List.map_nil, if_true, if_false, Bool.false_eq_true, reduceIte, List.all_cons, List.all_nil, Bool.and_true, Bool.true_and, Bool.and_false, Bool.false_and, Bool.not_true, Bool.not_false, Bool.or_false, Bool.or_true, Bool.false_or, Bool.true_or, and_self, and_true, true_and, Int.toNat_natCast, decide_true, decide_false, List.take_zero, List.take_nil, List.take_succ_cons, List.drop_succ_cons, List.drop_zero, List.drop_nil, List.set_nil, List.replicate_succ, List.replicate_zero, List.foldl_cons, List.foldl_nil, Nat.reduceSub, Nat.reduceAdd, Nat.reduceLT, Nat.reduceLeDiff, Nat.reduceEqDiff, Nat.reduceMul, Int.reduceAdd, Int.reduceSub, Int.reduceMul, Int.reduceLT, Int.reduceLE, Int.reduceNeg, Int.reducePow, Int.reduceToNat, or_true, true_or, or_false, false_or, false_and, and_false, Nat.reducePow, not_true_eq_false, not_false_eq_true, Nat.add_zero, Nat.zero_add, Nat.sub_self, Nat.sub_zero, reduceCtorEq, Option.map_map, Int.reduceEq, Int.reduceNe, Int.reduceMod, Int.reduceDiv, List.append_nil, rngL_zero, at0, at1, at2, Function.comp]
        simp
      · simp -implicitDefEqProofs only [run_bind, run_some, run_none, run_map, a_var, a_c, a_op, a_un, a_chain, tst_b, a_test, a_and, a_or, a_not, a_andV, a_orV, a_notV, a_if, a_nil, a_cons, a_tup, a_lst, a_new, a_fn, a_isi, a_call, asI_i, a_part, a_noPart, a_cut, a_app, a_ext, a_index, a_sub, a_ps0, a_ps1, a_disp, a_lc, a_tt, a_skip, andThen_nx, andThen_rt, andThen_bk, andThen_ct, a_seq, a_expr, a_ret, a_retN, a_brk, a_cnt, a_ifS, a_set, a_aug, a_asg, two_eq, a_par, a_put, a_daug, a_for, a_scoped, frzO_nx, frzO_bk, frzO_ct, frzO_rt, frzS_d, frzS_r, frzE_nil, frzE_none, frzE_some, a_gN, a_gsNil, a_gsCons, a_gTp, asStr_s, a_strI, asRng_i, a_rng1, asRng2_i, a_rng2, chkOf_d, a_seqI, a_cYes, items_tup, items_lst, litems_lst, ditems_tup, ditems_lst, toD_d, dataAll_nil, dataAll_cons, dataAll_mapd, asD_d, v_ii, v_addI, v_addS, v_addT, v_addL, v_neg, v_ltI, v_ltS, v_eq, v_ne, v_inS, v_notInS, v_ixS, v_ixR, v_ixT, v_ixL, v_cutS, v_cutT, v_cutL, v_lenS, v_lenR, v_lenT, v_lenL, v_abs, v_int1, v_listT, v_listL, v_tupleT, v_tupleL, v_isN, v_notN, isN_non, isN_r, isN_bl, isN_int, isN_str, isN_tup, isN_lst, ty_non, ty_bl, ty_int, ty_str, ty_tup, ty_lst, keyOf_i, keyOf_s, gAddI_i, gSubI_i, index_s, idxKind_s, isDat_d, isDat_r, svB_d, svB_r, moB_lst, moB_dk, natAbs10, asL_l, asK_k, itL_l, liL_l, tdL_l, tdL_k, dsL_k, dsL_l, tyL_l, tyL_k, lstAt_r, dkAt_r, items_r, litems_r, toD_r, dkS_r, dkS_tup, dkS_lst, dkS_dk, dkS_str, tyS_r, v_ixRef, v_lenRef, v_cutRef, ditems_r, v_listRef, v_tupleRef, v_eqRef, v_neRef, v_addRR, v_addRL, v_addLR, finO_nx, finO_rt, finO_bk, finO_ct, isTy_int_NoneType, isTy_int_bool, isTy_int_int, isTy_int_str, isTy_int_tuple, isTy_int_list, isTy_int_dict, isTy_bool_NoneType, isTy_bool_bool, isTy_bool_int, isTy_bool_str, isTy_bool_tuple, isTy_bool_list, isTy_bool_dict, isTy_str_NoneType, isTy_str_bool, isTy_str_int, isTy_str_str, isTy_str_tuple, isTy_str_list, isTy_str_dict, isTy_tuple_NoneType, isTy_tuple_bool, isTy_tuple_int, isTy_tuple_str, isTy_tuple_tuple, isTy_tuple_list, isTy_tuple_dict, isTy_list_NoneType, isTy_list_bool, isTy_list_int, isTy_list_str, isTy_list_tuple, isTy_list_list, isTy_list_dict, isTy_dict_NoneType, isTy_dict_bool, isTy_dict_int, isTy_dict_str, isTy_dict_tuple, isTy_dict_list, isTy_dict_dict, eo_non, eo_bl, eo_int, eo_str, eo_tup, eo_lst, ev_nn, ev_ii, ev_bb, ev_ss, ev_tt, ev_ll, ea_nn, ea_nc, ea_cn, ea_cc, ea_mapd, ev_non_bl, ev_non_int, ev_non_str, ev_non_tup, ev_non_lst, ev_bl_non, ev_bl_str, ev_bl_tup, ev_bl_lst, ev_int_non, ev_int_str, ev_int_tup, ev_int_lst, ev_str_non, ev_str_bl, ev_str_int, ev_str_tup, ev_str_lst, ev_tup_non, ev_tup_bl, ev_tup_int, ev_tup_str, ev_tup_lst, ev_lst_non, ev_lst_bl, ev_lst_int, ev_lst_str, ev_lst_tup, wipeE_nil, wipeE_cons, cast_0, cast_1, cast_2, cast_3, cast_4, cast_5, cast_6, cast_7, cast_8, cast_9, cast_10, cast_11, cast_12, keysOf_nil, keysOf_cons, mergeS_nil, mergeS_cons, inR_s, sz_lt, sz_le, leq_nn, leq_nc, leq_cn, leq_cc, key_ss, key_ii, key_is, key_si, findK_nil, findK_cons, mapS_nil, mapS_cons, putS_nil, putS_cons, Option.bind_some, Option.map_some, Option.bind_none, Option.map_none, List.set_cons_zero, List.set_cons_succ, List.set_nil, List.getElem?_cons_zero, List.getElem?_cons_succ, List.length_cons, List.length_nil, List.nil_append, List.cons_append, List.map_cons, List.map_nil, if_true, if_false, Bool.false_eq_true, reduceIte, List.all_cons, List.all_nil, Bool.and_true, Bool.true_and, Bool.and_false, Bool.false_and, Bool.not_true, Bool.not_false, Bool.or_false, Bool.or_true, Bool.false_or, Bool.true_or, and_self, and_true, true_and, Int.toNat_natCast, decide_true, decide_false, List.take_zero, List.take_nil, List.take_succ_cons, List.drop_succ_cons, List.drop_zero, List.drop_nil, List.set_nil, List.replicate_succ, List.replicate_zero, List.foldl_cons, List.foldl_nil, Nat.reduceSub, Nat.reduceAdd, Nat.reduceLT, Nat.reduceLeDiff, Nat.reduceEqDiff, Nat.reduceMul, Int.reduceAdd, Int.reduceSub, Int.reduceMul, Int.reduceLT, Int.reduceLE, Int.reduceNeg, Int.reducePow, Int.reduceToNat, or_true, true_or, or_false, false_or, false_and, and_false, Nat.reducePow, not_true_eq_false, not_false_eq_true, Nat.add_zero, Nat.zero_add, Nat.sub_self, Nat.sub_zero, reduceCtorEq, Option.map_map, Int.reduceEq, Int.reduceNe, Int.reduceMod, Int.reduceDiv, List.append_nil, rngL_zero, at0, at1, at2, Function.comp]
  · rintro δ st ⟨q', out, o5, o6, rfl, rfl, hq', ho, k5, k6, e1⟩
    rw [List.length_map, List.drop_length, runB_nil] at e1
    rw [List.append_nil] at e1
    exact ⟨q', o5, o6, by rw [e1], by rw [← e1, ho, List.length_map], hq', k5, k6⟩
  · rintro p ⟨q', o5, o6, rfl, hz, hq', k5, k6⟩
    have hsz : (runB b ord 0 row).1.length ≤ 100000 := by omega
    simp -implicitDefEqProofs only [run_bind, run_some, run_none, run_map, a_var, a_c, a_op, a_un, a_chain, tst_b, a_test, a_and, a_or, a_not, a_andV, a_orV, a_notV, a_if, a_nil, a_cons, a_tup, a_lst, a_new, a_fn, a_isi, a_call, asI_i, a_part, a_noPart, a_cut, a_app, a_ext, a_index, a_sub, a_ps0, a_ps1, a_disp, a_lc, a_tt, a_skip, andThen_nx, andThen_rt, andThen_bk, andThen_ct, a_seq, a_expr, a_ret, a_retN, a_brk, a_cnt, a_ifS, a_set, a_aug, a_asg, two_eq, a_par, a_put, a_daug, a_for, a_scoped, frzO_nx, frzO_bk, frzO_ct, frzO_rt, frzS_d, frzS_r, frzE_nil, frzE_none, frzE_some, a_gN, a_gsNil, a_gsCons, a_gTp, asStr_s, a_strI, asRng_i, a_rng1, asRng2_i, a_rng2, chkOf_d, a_seqI, a_cYes, items_tup, items_lst, litems_lst, ditems_tup, ditems_lst, toD_d, dataAll_nil, dataAll_cons, dataAll_mapd, asD_d, v_ii, v_addI, v_addS, v_addT, v_addL, v_neg, v_ltI, v_ltS, v_eq, v_ne, v_inS, v_notInS, v_ixS, v_ixR, v_ixT, v_ixL, v_cutS, v_cutT, v_cutL, v_lenS, v_lenR, v_lenT, v_lenL, v_abs, v_int1, v_listT, v_listL, v_tupleT, v_tupleL, v_isN, v_notN, isN_non, isN_r, isN_bl, isN_int, isN_str, isN_tup, isN_lst, ty_non, ty_bl, ty_int, ty_str, ty_tup, ty_lst, keyOf_i, keyOf_s, gAddI_i, gSubI_i, index_s, idxKind_s, isDat_d, isDat_r, svB_d, svB_r, moB_lst, moB_dk, natAbs10, asL_l, asK_k, itL_l, liL_l, tdL_l, tdL_k, dsL_k, dsL_l, tyL_l, tyL_k, lstAt_r, dkAt_r, items_r, litems_r, toD_r, dkS_r, dkS_tup, dkS_lst, dkS_dk, dkS_str, tyS_r, v_ixRef, v_lenRef, v_cutRef, ditems_r, v_listRef, v_tupleRef, v_eqRef, v_neRef, v_addRR, v_addRL, v_addLR, finO_nx, finO_rt, finO_bk, finO_ct, isTy_int_NoneType, isTy_int_bool, isTy_int_int, isTy_int_str, isTy_int_tuple, isTy_int_list, isTy_int_dict, isTy_bool_NoneType, isTy_bool_bool, isTy_bool_int, isTy_bool_str, isTy_bool_tuple, isTy_bool_list, isTy_bool_dict, isTy_str_NoneType, isTy_str_bool, isTy_str_int, isTy_str_str, isTy_str_tuple, isTy_str_list, isTy_str_dict, isTy_tuple_NoneType, isTy_tuple_bool, isTy_tuple_int, isTy_tuple_str, isTy_tuple_tuple, isTy_tuple_list, isTy_tuple_dict, isTy_list_NoneType, isTy_list_bool, isTy_list_int, isTy_list_str, isTy_list_tuple, isTy_list_list, isTy_list_dict, isTy_dict_NoneType, isTy_dict_bool, isTy_dict_int, isTy_dict_str, isTy_dict_tuple, isTy_dict_list, isTy_dict_dict, eo_non, eo_bl, eo_int, eo_str, eo_tup, eo_lst, ev_nn, ev_ii, ev_bb, ev_ss, ev_tt, ev_ll, ea_nn, ea_nc, ea_cn, ea_cc, ea_mapd, ev_non_bl, ev_non_int, ev_non_str, ev_non_tup, ev_non_lst, ev_bl_non, ev_bl_str, ev_bl_tup, ev_bl_lst, ev_int_non, ev_int_str, ev_int_tup, ev_int_lst, ev_str_non, ev_str_bl, ev_str_int, ev_str_tup, ev_str_lst, ev_tup_non, ev_tup_bl, ev_tup_int, ev_tup_str, ev_tup_lst, ev_lst_non, ev_lst_bl, ev_lst_int, ev_lst_str, ev_lst_tup, wipeE_nil, wipeE_cons, cast_0, cast_1, cast_2, cast_3, cast_4, cast_5, cast_6, cast_7, cast_8, cast_9, cast_10, cast_11, cast_12, keysOf_nil, keysOf_cons, mergeS_nil, mergeS_cons, inR_s, sz_lt, sz_le, leq_nn, leq_nc, leq_cn, leq_cc, key_ss, key_ii, key_is, key_si, findK_nil, findK_cons, mapS_nil, mapS_cons, putS_nil, putS_cons, Option.bind_some, Option.map_some, Option.bind_none, Option.map_none, List.set_cons_zero, List.set_cons_succ, List.set_nil, List.getElem?_cons_zero, List.getElem?_cons_succ, List.length_cons, List.length_nil, List.nil_append, List.cons_append, List.map_cons, List.map_nil, if_true, if_false, Bool.false_eq_true, reduceIte, List.all_cons, List.all_nil, Bool.and_true, Bool.true_and, Bool.and_false, Bool.false_and, Bool.not_true, Bool.not_false, Bool.or_false, Bool.or_true, Bool.false_or, Bool.true_or, and_self, and_true, true_and, Int.toNat_natCast, decide_true, decide_false, List.take_zero, List.take_nil, List.take_succ_cons, List.drop_succ_cons, List.drop_zero, List.drop_nil, List.set_nil, List.replicate_succ, List.replicate_zero, List.foldl_cons, List.foldl_nil, Nat.reduceSub, Nat.reduceAdd, Nat.reduceLT, Nat.reduceLeDiff, Nat.reduceEqDiff, Nat.reduceMul, Int.reduceAdd, Int.reduceSub, Int.reduceMul, Int.reduceLT, Int.reduceLE, Int.reduceNeg, Int.reducePow, Int.reduceToNat, or_true, true_or, or_false, false_or, false_and, and_false, Nat.reducePow, not_true_eq_false, not_false_eq_true, Nat.add_zero, Nat.zero_add, Nat.sub_self, Nat.sub_zero, reduceCtorEq, Option.map_map, Int.reduceEq, Int.reduceNe, Int.reduceMod, Int.reduceDiv, List.append_nil, rngL_zero, at0, at1, at2, frzE_okO k5, frzE_okO k6, atI_mapn hq', sz_le hsz, List.append_nil]
/-! ### what is a box -/
def letterD : D → Bool
  | .str [c] => decide (c ∈ az)
  | _ => false
def belowD (k : Nat) : D → Bool
  | .int q => decide (0 ≤ q) && decide (q < k)
  | _ => false
def pairD (k : Nat) : D → Bool
  | .tup [a, b] => letterD a && belowD k b
  | _ => false
def tupD (n : Nat) : D → Bool
  | .tup ps => decide (ps.length = n)
  | _ => false
def rowD (n k : Nat) : D → Bool
  | .tup ps => decide (ps.length = n) && ps.all (pairD k)
  | _ => false
def boxD (n : Nat) : D → Bool
  | .tup rows => !rows.isEmpty && rows.all (rowD n rows.length)
  | _ => false
theorem p_below (k : Nat) (d : D) (h : eqOk 30 d = true) : F_is_below [.d d, .d (.int k)] [] = some (.d (.bl (belowD k d)), []) := by
  unfold F_is_below g_is_below
  rw [a_runF]
  cases d with
  | dk => unfold eqOk at h; cases h
  | scr => unfold eqOk at h; cases h
  | int q =>
    simp -implicitDefEqProofs only [run_bind, run_some, run_none, run_map, a_var, a_c, a_op, a_un, a_chain, tst_b, a_test, a_and, a_or, a_not, a_andV, a_orV, a_notV, a_if, a_nil, a_cons, a_tup, a_lst, a_new, a_fn, a_isi, a_call, asI_i, a_part, a_noPart, a_cut, a_app, a_ext, a_index, a_sub, a_ps0, a_ps1, a_disp, a_lc, a_tt, a_skip, andThen_nx, andThen_rt, andThen_bk, andThen_ct, a_seq, a_expr, a_ret, a_retN, a_brk, a_cnt, a_ifS, a_set, a_aug, a_asg, two_eq, a_par, a_put, a_daug, a_for, a_scoped, frzO_nx, frzO_bk, frzO_ct, frzO_rt, frzS_d, frzS_r, frzE_nil, frzE_none, frzE_some, a_gN, a_gsNil, a_gsCons, a_gTp, asStr_s, a_strI, asRng_i, a_rng1, asRng2_i, a_rng2, chkOf_d, a_seqI, a_cYes, items_tup, items_lst, litems_lst, ditems_tup, ditems_lst, toD_d, dataAll_nil, dataAll_cons, dataAll_mapd, asD_d, v_ii, v_addI, v_addS, v_addT, v_addL, v_neg, v_ltI, v_ltS, v_eq, v_ne, v_inS, v_notInS, v_ixS, v_ixR, v_ixT, v_ixL, v_cutS, v_cutT, v_cutL, v_lenS, v_lenR, v_lenT, v_lenL, v_abs, v_int1, v_listT, v_listL, v_tupleT, v_tupleL, v_isN, v_notN, isN_non, isN_r, isN_bl, isN_int, isN_str, isN_tup, isN_lst, ty_non, ty_bl, ty_int, ty_str, ty_tup, ty_lst, keyOf_i, keyOf_s, gAddI_i, gSubI_i, index_s, idxKind_s, isDat_d, isDat_r, svB_d, svB_r, moB_lst, moB_dk, natAbs10, asL_l, asK_k, itL_l, liL_l, tdL_l, tdL_k, dsL_k, dsL_l, tyL_l, tyL_k, lstAt_r, dkAt_r, items_r, litems_r, toD_r, dkS_r, dkS_tup, dkS_lst, dkS_dk, dkS_str, tyS_r, v_ixRef, v_lenRef, v_cutRef, ditems_r, v_listRef, v_tupleRef, v_eqRef, v_neRef, v_addRR, v_addRL, v_addLR, finO_nx, finO_rt, finO_bk, finO_ct, isTy_int_NoneType, isTy_int_bool, isTy_int_int, isTy_int_str, isTy_int_tuple, isTy_int_list, isTy_int_dict, isTy_bool_NoneType, isTy_bool_bool, isTy_bool_int, isTy_bool_str, isTy_bool_tuple, isTy_bool_list, isTy_bool_dict, isTy_str_NoneType, isTy_str_bool, isTy_str_int, isTy_str_str, isTy_str_tuple, isTy_str_list, isTy_str_dict, isTy_tuple_NoneType, isTy_tuple_bool, isTy_tuple_int, isTy_tuple_str, isTy_tuple_tuple, isTy_tuple_list, isTy_tuple_dict, isTy_list_NoneType, isTy_list_bool, isTy_list_int, isTy_list_str, isTy_list_tuple, isTy_list_list, isTy_list_dict, isTy_dict_NoneType, isTy_dict_bool, isTy_dict_int, isTy_dict_str, isTy_dict_tuple, isTy_dict_list, isTy_dict_dict, eo_non, eo_bl, eo_int, eo_str, eo_tup, eo_lst, ev_nn, ev_ii, ev_bb, ev_ss, ev_tt, ev_ll, ea_nn, ea_nc, ea_cn, ea_cc, ea_mapd, ev_non_bl, ev_non_int, ev_non_str, ev_non_tup, ev_non_lst, ev_bl_non, ev_bl_str, ev_bl_tup, ev_bl_lst, ev_int_non, ev_int_str, ev_int_tup, ev_int_lst, ev_str_non, ev_str_bl, ev_str_int, ev_str_tup, ev_str_lst, ev_tup_non, ev_tup_bl, ev_tup_int, ev_tup_str, ev_tup_lst, ev_lst_non, ev_lst_bl, ev_lst_int, ev_lst_str, ev_lst_tup, wipeE_nil, wipeE_cons, cast_0, cast_1, cast_2, cast_3, cast_4, cast_5, cast_6, cast_7, cast_8, cast_9, cast_10, cast_11, cast_12, keysOf_nil, keysOf_cons, mergeS_nil, mergeS_cons, inR_s, sz_lt, sz_le, leq_nn, leq_nc, leq_cn, leq_cc, key_ss, key_ii, key_is, key_si, findK_nil, findK_cons, mapS_nil, mapS_cons, putS_nil, putS_cons, Option.bind_some, Option.map_some, Option.bind_none, Option.map_none, List.set_cons_zero, List.set_cons_succ, List.set_nil, List.getElem?_cons_zero, List.getElem?_cons_succ, List.length_cons, List.length_nil, List.nil_append, List.cons_append, List.map_cons, List.map_nil, if_true, if_false, Bool.false_eq_true, reduceIte, List.all_cons, List.all_nil, Bool.and_true, Bool.true_and, Bool.and_false, Bool.false_and, Bool.not_true, Bool.not_false, Bool.or_false, Bool.or_true, Bool.false_or, Bool.true_or, and_self, and_true, true_and, Int.toNat_natCast, decide_true, decide_false, List.take_zero, List.take_nil, List.take_succ_cons, List.drop_succ_cons, List.drop_zero, List.drop_nil, List.set_nil, List.replicate_succ, List.replicate_zero, List.foldl_cons, List.foldl_nil, Nat.reduceSub, Nat.reduceAdd, Nat.reduceLT, Nat.reduceLeDiff, Nat.reduceEqDiff, Nat.reduceMul, Int.reduceAdd, Int.reduceSub, Int.reduceMul, Int.reduceLT, Int.reduceLE, Int.reduceNeg, Int.reducePow, Int.reduceToNat, or_true, true_or, or_false, false_or, false_and, and_false, Nat.reducePow, not_true_eq_false, not_false_eq_true, Nat.add_zero, Nat.zero_add, Nat.sub_self, Nat.sub_zero, reduceCtorEq, Option.map_map, Int.reduceEq, Int.reduceNe, Int.reduceMod, Int.reduceDiv, List.append_nil, rngL_zero, at0, at1, at2, belowD]
    by_cases h1 : 0 ≤ q <;> simp [h1]
  | _ => simp -implicitDefEqProofs only [run_bind, run_some, run_none, run_map, a_var, a_c, a_op, a_un, a_chain, tst_b, a_test, a_and, a_or, a_not, a_andV, a_orV, a_notV, a_if, a_nil, a_cons, a_tup, a_lst, a_new, a_fn, a_isi, a_call, asI_i, a_part, a_noPart, a_cut, a_app, a_ext, a_index, a_sub, a_ps0, a_ps1, a_disp, a_lc, a_tt, a_skip, andThen_nx, andThen_rt, andThen_bk, andThen_ct, a_seq, a_expr, a_ret, a_retN, a_brk, a_cnt, a_ifS, a_set, a_aug, a_asg, two_eq, a_par, a_put, a_daug, a_for, a_scoped, frzO_nx, frzO_bk, frzO_ct, frzO_rt, frzS_d, frzS_r, frzE_nil, frzE_none, frzE_some, a_gN, a_gsNil, a_gsCons, a_gTp, asStr_s, a_strI, asRng_i, a_rng1, asRng2_i, a_rng2, chkOf_d, a_seqI, a_cYes, items_tup, items_lst, litems_lst, ditems_tup, ditems_lst, toD_d, dataAll_nil, dataAll_cons, dataAll_mapd, asD_d, v_ii, v_addI, v_addS, v_addT, v_addL, v_neg, v_ltI, v_ltS, v_eq, v_ne, v_inS, v_notInS, v_ixS, v_ixR, v_ixT, v_ixL, v_cutS, v_cutT, v_cutL, v_lenS, v_lenR, v_lenT, v_lenL, v_abs, v_int1, v_listT, v_listL, v_tupleT, v_tupleL, v_isN, v_notN, isN_non, isN_r, isN_bl, isN_int, isN_str, isN_tup, isN_lst, ty_non, ty_bl, ty_int, ty_str, ty_tup, ty_lst, keyOf_i, keyOf_s, gAddI_i, gSubI_i, index_s, idxKind_s, isDat_d, isDat_r, svB_d, svB_r, moB_lst, moB_dk, natAbs10, asL_l, asK_k, itL_l, liL_l, tdL_l, tdL_k, dsL_k, dsL_l, tyL_l, tyL_k, lstAt_r, dkAt_r, items_r, litems_r, toD_r, dkS_r, dkS_tup, dkS_lst, dkS_dk, dkS_str, tyS_r, v_ixRef, v_lenRef, v_cutRef, ditems_r, v_listRef, v_tupleRef, v_eqRef, v_neRef, v_addRR, v_addRL, v_addLR, finO_nx, finO_rt, finO_bk, finO_ct, isTy_int_NoneType, isTy_int_bool, isTy_int_int, isTy_int_str, isTy_int_tuple, isTy_int_list, isTy_int_dict, isTy_bool_NoneType, isTy_bool_bool, isTy_bool_int, isTy_bool_str, isTy_bool_tuple, isTy_bool_list, isTy_bool_dict, isTy_str_NoneType, isTy_str_bool, isTy_str_int, isTy_str_str, isTy_str_tuple, isTy_str_list, isTy_str_dict, isTy_tuple_NoneType, isTy_tuple_bool, isTy_tuple_int, isTy_tuple_str, isTy_tuple_tuple, isTy_tuple_list, isTy_tuple_dict, isTy_list_NoneType, isTy_list_bool, isTy_list_int, isTy_list_str, isTy_list_tuple, isTy_list_list, isTy_list_dict, isTy_dict_NoneType, isTy_dict_bool, isTy_dict_int, isTy_dict_str, isTy_dict_tuple, isTy_dict_list, isTy_dict_dict, eo_non, eo_bl, eo_int, eo_str, eo_tup, eo_lst, ev_nn, ev_ii, ev_bb, ev_ss, ev_tt, ev_ll, ea_nn, ea_nc, ea_cn, ea_cc, ea_mapd, ev_non_bl, ev_non_int, ev_non_str, ev_non_tup, ev_non_lst, ev_bl_non, ev_bl_str, ev_bl_tup, ev_bl_lst, ev_int_non, ev_int_str, ev_int_tup, ev_int_lst, ev_str_non, ev_str_bl, ev_str_int, ev_str_tup, ev_str_lst, ev_tup_non, ev_tup_bl, ev_tup_int, ev_tup_str, ev_tup_lst, ev_lst_non, ev_lst_bl, ev_lst_int, ev_lst_str, ev_lst_tup, wipeE_nil, wipeE_cons, cast_0, cast_1, cast_2, cast_3, cast_4, cast_5, cast_6, cast_7, cast_8, cast_9, cast_10, cast_11, cast_12, keysOf_nil, keysOf_cons, mergeS_nil, mergeS_cons, inR_s, sz_lt, sz_le, leq_nn, leq_nc, leq_cn, leq_cc, key_ss, key_ii, key_is, key_si, findK_nil, findK_cons, mapS_nil, mapS_cons, putS_nil, putS_cons, Option.bind_some, Option.map_some, Option.bind_none, Option.map_none, List.set_cons_zero, List.set_cons_succ, List.set_nil, List.getElem?_cons_zero, List.getElem?_cons_succ, List.length_cons, List.length_nil, List.nil_append, List.cons_append, List.map_cons, List.map_nil, if_true, if_false, Bool.false_eq_true, reduceIte, List.all_cons, List.all_nil, Bool.and_true, Bool.true_and, Bool.and_false, Bool.false_and, Bool.not_true, Bool.not_false, Bool.or_false, Bool.or_true, Bool.false_or, Bool.true_or, and_self, and_true, true_and, Int.toNat_natCast, decide_true, decide_false, List.take_zero, List.take_nil, List.take_succ_cons, List.drop_succ_cons, List.drop_zero, List.drop_nil, List.set_nil, List.replicate_succ, List.replicate_zero, List.foldl_cons, List.foldl_nil, Nat.reduceSub, Nat.reduceAdd, Nat.reduceLT, Nat.reduceLeDiff, Nat.reduceEqDiff, Nat.reduceMul, Int.reduceAdd, Int.reduceSub, Int.reduceMul, Int.reduceLT, Int.reduceLE, Int.reduceNeg, Int.reducePow, Int.reduceToNat, or_true, true_or, or_false, false_or, false_and, and_false, Nat.reducePow, not_true_eq_false, not_false_eq_true, Nat.add_zero, Nat.zero_add, Nat.sub_self, Nat.sub_zero, reduceCtorEq, Option.map_map, Int.reduceEq, Int.reduceNe, Int.reduceMod, Int.reduceDiv, List.append_nil, rngL_zero, at0, at1, at2, belowD]
theorem p_sign (d : D) (h : eqOk 30 d = true) : F_is_sign [.d d] [] = some (.d (.bl (letterD d)), []) := by
  unfold F_is_sign g_is_sign
  rw [a_runF]
  cases d with
  | dk => unfold eqOk at h; cases h
  | scr => unfold eqOk at h; cases h
  | str s =>
    match s with
    | [] => simp -implicitDefEqProofs only [run_bind, run_some, run_none, run_map, a_var, a_c, a_op, a_un, a_chain, tst_b, a_test, a_and, a_or, a_not, a_andV, a_orV, a_notV, a_if, a_nil, a_cons, a_tup, a_lst, a_new, a_fn, a_isi, a_call, asI_i, a_part, a_noPart, a_cut, a_app, a_ext, a_index, a_sub, a_ps0, a_ps1, a_disp, a_lc, a_tt, a_skip, andThen_nx, andThen_rt, andThen_bk, andThen_ct, a_seq, a_expr, a_ret, a_retN, a_brk, a_cnt, a_ifS, a_set, a_aug, a_asg, two_eq, a_par, a_put, a_daug, a_for, a_scoped, frzO_nx, frzO_bk, frzO_ct, frzO_rt, frzS_d, frzS_r, frzE_nil, frzE_none, frzE_some, a_gN, a_gsNil, a_gsCons, a_gTp, asStr_s, a_strI, asRng_i, a_rng1, asRng2_i, a_rng2, chkOf_d, a_seqI, a_cYes, items_tup, items_lst, litems_lst, ditems_tup, ditems_lst, toD_d, dataAll_nil, dataAll_cons, dataAll_mapd, asD_d, v_ii, v_addI, v_addS, v_addT, v_addL, v_neg, v_ltI, v_ltS, v_eq, v_ne, v_inS, v_notInS, v_ixS, v_ixR, v_ixT, v_ixL, v_cutS, v_cutT, v_cutL, v_lenS, v_lenR, v_lenT, v_lenL, v_abs, v_int1, v_listT, v_listL, v_tupleT, v_tupleL, v_isN, v_notN, isN_non, isN_r, isN_bl, isN_int, isN_str, isN_tup, isN_lst, ty_non, ty_bl, ty_int, ty_str, ty_tup, ty_lst, keyOf_i, keyOf_s, gAddI_i, gSubI_i, index_s, idxKind_s, isDat_d, isDat_r, svB_d, svB_r, moB_lst, moB_dk, natAbs10, asL_l, asK_k, itL_l, liL_l, tdL_l, tdL_k, dsL_k, dsL_l, tyL_l, tyL_k, lstAt_r, dkAt_r, items_r, litems_r, toD_r, dkS_r, dkS_tup, dkS_lst, dkS_dk, dkS_str, tyS_r, v_ixRef, v_lenRef, v_cutRef, ditems_r, v_listRef, v_tupleRef, v_eqRef, v_neRef, v_addRR, v_addRL, v_addLR, finO_nx, finO_rt, finO_bk, finO_ct, isTy_int_NoneType, isTy_int_bool, isTy_int_int, isTy_int_str, isTy_int_tuple, isTy_int_list, isTy_int_dict, isTy_bool_NoneType, isTy_bool_bool, isTy_bool_int, isTy_bool_str, isTy_bool_tuple, isTy_bool_list, isTy_bool_dict, isTy_str_NoneType, isTy_str_bool, isTy_str_int, isTy_str_str, isTy_str_tuple, isTy_str_list, isTy_str_dict, isTy_tuple_NoneType, isTy_tuple_bool, isTy_tuple_int, isTy_tuple_str, isTy_tuple_tuple, isTy_tuple_list, isTy_tuple_dict, isTy_list_NoneType, isTy_list_bool, isTy_list_int, isTy_list_str, isTy_list_tuple, isTy_list_list, isTy_list_dict, isTy_dict_NoneType, isTy_dict_bool, isTy_dict_int, isTy_dict_str, isTy_dict_tuple, isTy_dict_list, isTy_dict_dict, eo_non, eo_bl, eo_int, eo_str, eo_tup, eo_lst, ev_nn, ev_ii, ev_bb, ev_ss, ev_tt, ev_ll, ea_nn, ea_nc, ea_cn, ea_cc, ea_mapd, ev_non_bl, ev_non_int, ev_non_str, ev_non_tup, ev_non_lst, ev_bl_non, ev_bl_str, ev_bl_tup, ev_bl_lst, ev_int_non, ev_int_str, ev_int_tup, ev_int_lst, ev_str_non, ev_str_bl, ev_str_int, ev_str_tup, ev_str_lst, ev_tup_non, ev_tup_bl, ev_tup_int, ev_tup_str, ev_tup_lst, ev_lst_non, ev_lst_bl, ev_lst_int, ev_lst_str, ev_lst_tup, wipeE_nil, wipeE_cons, cast_0, cast_1, cast_2, cast_3, cast_4, cast_5, cast_6, cast_7, cast_8, cast_9, cast_10, cast_11, cast_12, keysOf_nil, keysOf_cons, mergeS_nil, mergeS_cons, inR_s, sz_lt, sz_le, leq_nn, leq_nc, leq_cn, leq_cc, key_ss, key_ii, key_is, key_si, findK_nil, findK_cons, mapS_nil, mapS_cons, putS_nil, putS_cons, Option.bind_some, Option.map_some, Option.bind_none, Option.map_none, List.set_cons_zero, List.set_cons_succ, List.set_nil, List.getElem?_cons_zero, List.getElem?_cons_succ, List.length_cons, List.length_nil, List.nil_append, List.cons_append, List.map_cons, List.map_nil, if_true, if_false, Bool.false_eq_true, reduceIte, List.all_cons, List.all_nil, Bool.and_true, Bool.true_and, Bool.and_false, Bool.false_and, Bool.not_true, Bool.not_false, Bool.or_false, Bool.or_true, Bool.false_or, Bool.true_or, and_self, and_true, true_and, Int.toNat_natCast, decide_true, decide_false, List.take_zero, List.take_nil, List.take_succ_cons, List.drop_succ_cons, List.drop_zero, List.drop_nil, List.set_nil, List.replicate_succ, List.replicate_zero, List.foldl_cons, List.foldl_nil, Nat.reduceSub, Nat.reduceAdd, Nat.reduceLT, Nat.reduceLeDiff, Nat.reduceEqDiff, Nat.reduceMul, Int.reduceAdd, Int.reduceSub, Int.reduceMul, Int.reduceLT, Int.reduceLE, Int.reduceNeg, Int.reducePow, Int.reduceToNat, or_true, true_or, or_false, false_or, false_and, and_false, Nat.reducePow, not_true_eq_false, not_false_eq_true, Nat.add_zero, Nat.zero_add, Nat.sub_self, Nat.sub_zero, reduceCtorEq, Option.map_map, Int.reduceEq, Int.reduceNe, Int.reduceMod, Int.reduceDiv, List.append_nil, rngL_zero, at0, at1, at2, letterD]
    | [c] => simp -implicitDefEqProofs only [run_bind, run_some, run_none, run_map, a_var, a_c, a_op, a_un, a_chain, tst_b, a_test, a_and, a_or, a_not, a_andV, a_orV, a_notV, a_if, a_nil, a_cons, a_tup, a_lst, a_new, a_fn, a_isi, a_call, asI_i, a_part, a_noPart, a_cut, a_app, a_ext, a_index, a_sub, a_ps0, a_ps1, a_disp, a_lc, a_tt, a_skip, andThen_nx, andThen_rt, andThen_bk, andThen_ct, a_seq, a_expr, a_ret, a_retN, a_brk, a_cnt, a_ifS, a_set, a_aug, a_asg, two_eq, a_par, a_put, a_daug, a_for, a_scoped, frzO_nx, frzO_bk, frzO_ct, frzO_rt, frzS_d, frzS_r, frzE_nil, frzE_none, frzE_some, a_gN, a_gsNil, a_gsCons, a_gTp, asStr_s, a_strI, asRng_i, a_rng1, asRng2_i, a_rng2, chkOf_d, a_seqI, a_cYes, items_tup, items_lst, litems_lst, ditems_tup, ditems_lst, toD_d, dataAll_nil, dataAll_cons, dataAll_mapd, asD_d, v_ii, v_addI, v_addS, v_addT, v_addL, v_neg, v_ltI, v_ltS, v_eq, v_ne, v_inS, v_notInS, v_ixS, v_ixR, v_ixT, v_ixL, v_cutS, v_cutT, v_cutL, v_lenS, v_lenR, v_lenT, v_lenL, v_abs, v_int1, v_listT, v_listL, v_tupleT, v_tupleL, v_isN, v_notN, isN_non, isN_r, isN_bl, isN_int, isN_str, isN_tup, isN_lst, ty_non, ty_bl, ty_int, ty_str, ty_tup, ty_lst, keyOf_i, keyOf_s, gAddI_i, gSubI_i, index_s, idxKind_s, isDat_d, isDat_r, svB_d, svB_r, moB_lst, moB_dk, natAbs10, asL_l, asK_k, itL_l, liL_l, tdL_l, tdL_k, dsL_k, dsL_l, tyL_l, tyL_k, lstAt_r, dkAt_r, items_r, litems_r, toD_r, dkS_r, dkS_tup, dkS_lst, dkS_dk, dkS_str, tyS_r, v_ixRef, v_lenRef, v_cutRef, ditems_r, v_listRef, v_tupleRef, v_eqRef, v_neRef, v_addRR, v_addRL, v_addLR, finO_nx, finO_rt, finO_bk, finO_ct, isTy_int_NoneType, isTy_int_bool, isTy_int_int, isTy_int_str, isTy_int_tuple, isTy_int_list, isTy_int_dict, isTy_bool_NoneType, isTy_bool_bool, isTy_bool_int, isTy_bool_str, isTy_bool_tuple, isTy_bool_list, isTy_bool_dict, isTy_str_NoneType, isTy_str_bool, isTy_str_int, isTy_str_str, isTy_str_tuple, isTy_str_list, isTy_str_dict, isTy_tuple_NoneType, isTy_tuple_bool, isTy_tuple_int, isTy_tuple_str, isTy_tuple_tuple, isTy_tuple_list, isTy_tuple_dict, isTy_list_NoneType, isTy_list_bool, isTy_list_int, isTy_list_str, isTy_list_tuple, isTy_list_list, isTy_list_dict, isTy_dict_NoneType, isTy_dict_bool, isTy_dict_int, isTy_dict_str, isTy_dict_tuple, isTy_dict_list, isTy_dict_dict, eo_non, eo_bl, eo_int, eo_str, eo_tup, eo_lst, ev_nn, ev_ii, ev_bb, ev_ss, ev_tt, ev_ll, ea_nn, ea_nc, ea_cn, ea_cc, ea_mapd, ev_non_bl, ev_non_int, ev_non_str, ev_non_tup, ev_non_lst, ev_bl_non, ev_bl_str, ev_bl_tup, ev_bl_lst, ev_int_non, ev_int_str, ev_int_tup, ev_int_lst, ev_str_non, ev_str_bl, ev_str_int, ev_str_tup, ev_str_lst, ev_tup_non, ev_tup_bl, ev_tup_int, ev_tup_str, ev_tup_lst, ev_lst_non, ev_lst_bl, ev_lst_int, ev_lst_str, ev_lst_tup, wipeE_nil, wipeE_cons, cast_0, cast_1, cast_2, cast_3, cast_4, cast_5, cast_6, cast_7, cast_8, cast_9, cast_10, cast_11, cast_12, keysOf_nil, keysOf_cons, mergeS_nil, mergeS_cons, inR_s, sz_lt, sz_le, leq_nn, leq_nc, leq_cn, leq_cc, key_ss, key_ii, key_is, key_si, findK_nil, findK_cons, mapS_nil, mapS_cons, putS_nil, putS_cons, Option.bind_some, Option.map_some, Option.bind_none, Option.map_none, List.set_cons_zero, List.set_cons_succ, List.set_nil, List.getElem?_cons_zero, List.getElem?_cons_succ, List.length_cons, List.length_nil, List.nil_append, List.cons_append, List.map_cons, List.map_nil, if_true, if_false, Bool.false_eq_true, reduceIte, List.all_cons, List.all_nil, Bool.and_true, Bool.true_and, Bool.and_false, Bool.false_and, Bool.not_true, Bool.not_false, Bool.or_false, Bool.or_true, Bool.false_or, Bool.true_or, and_self, and_true, true_and, Int.toNat_natCast, decide_true, decide_false, List.take_zero, List.take_nil, List.take_succ_cons, List.drop_succ_cons, List.drop_zero, List.drop_nil, List.set_nil, List.replicate_succ, List.replicate_zero, List.foldl_cons, List.foldl_nil, Nat.reduceSub, Nat.reduceAdd, Nat.reduceLT, Nat.reduceLeDiff, Nat.reduceEqDiff, Nat.reduceMul, Int.reduceAdd, Int.reduceSub, Int.reduceMul, Int.reduceLT, Int.reduceLE, Int.reduceNeg, Int.reducePow, Int.reduceToNat, or_true, true_or, or_false, false_or, false_and, and_false, Nat.reducePow, not_true_eq_false, not_false_eq_true, Nat.add_zero, Nat.zero_add, Nat.sub_self, Nat.sub_zero, reduceCtorEq, Option.map_map, Int.reduceEq, Int.reduceNe, Int.reduceMod, Int.reduceDiv, List.append_nil, rngL_zero, at0, at1, at2, letterD]
    | a :: b :: r =>
      have e : ¬ (((r.length + 1 + 1 : Nat) : Int) = 1) := by omega
      simp -implicitDefEqProofs only [run_bind, run_some, run_none, run_map, a_var, a_c, a_op, a_un, a_chain, tst_b, a_test, a_and, a_or, a_not, a_andV, a_orV, a_notV, a_if, a_nil, a_cons, a_tup, a_lst, a_new, a_fn, a_isi, a_call, asI_i, a_part, a_noPart, a_cut, a_app, a_ext, a_index, a_sub, a_ps0, a_ps1, a_disp, a_lc, a_tt, a_skip, andThen_nx, andThen_rt, andThen_bk, andThen_ct, a_seq, a_expr, a_ret, a_retN, a_brk, a_cnt, a_ifS, a_set, a_aug, a_asg, two_eq, a_par, a_put, a_daug, a_for, a_scoped, frzO_nx, frzO_bk, frzO_ct, frzO_rt, frzS_d, frzS_r, frzE_nil, frzE_none, frzE_some, a_gN, a_gsNil, a_gsCons, a_gTp, asStr_s, a_strI, asRng_i, a_rng1, asRng2_i, a_rng2, chkOf_d, a_seqI, a_cYes, items_tup, items_lst, litems_lst, ditems_tup, ditems_lst, toD_d, dataAll_nil, dataAll_cons, dataAll_mapd, asD_d, v_ii, v_addI, v_addS, v_addT, v_addL, v_neg, v_ltI, v_ltS, v_eq, v_ne, v_inS, v_notInS, v_ixS, v_ixR, v_ixT, v_ixL, v_cutS, v_cutT, v_cutL, v_lenS, v_lenR, v_lenT, v_lenL, v_abs, v_int1, v_listT, v_listL, v_tupleT, v_tupleL, v_isN, v_notN, isN_non, isN_r, isN_bl, isN_int, isN_str, isN_tup, isN_lst, ty_non, ty_bl, ty_int, ty_str, ty_tup, ty_lst, keyOf_i, keyOf_s, gAddI_i, gSubI_i, index_s, idxKind_s, isDat_d, isDat_r, svB_d, svB_r, moB_lst, moB_dk, natAbs10, asL_l, asK_k, itL_l, liL_l, tdL_l, tdL_k, dsL_k, dsL_l, tyL_l, tyL_k, lstAt_r, dkAt_r, items_r, litems_r, toD_r, dkS_r, dkS_tup, dkS_lst, dkS_dk, dkS_str, tyS_r, v_ixRef, v_lenRef, v_cutRef, ditems_r, v_listRef, v_tupleRef, v_eqRef, v_neRef, v_addRR, v_addRL, v_addLR, finO_nx, finO_rt, finO_bk, finO_ct, isTy_int_NoneType, isTy_int_bool, isTy_int_int, isTy_int_str, isTy_int_tuple, isTy_int_list, isTy_int_dict, isTy_bool_NoneType, isTy_bool_bool, isTy_bool_int, isTy_bool_str, isTy_bool_tuple, isTy_bool_list, isTy_bool_dict, isTy_str_NoneType, isTy_str_bool, isTy_str_int, isTy_str_str, isTy_str_tuple, isTy_str_list, isTy_str_dict, isTy_tuple_NoneType, isTy_tuple_bool, isTy_tuple_int, isTy_tuple_str, isTy_tuple_tuple, isTy_tuple_list, isTy_tuple_dict, isTy_list_NoneType, isTy_list_bool, isTy_list_int, isTy_list_str, isTy_list_tuple, isTy_list_list, isTy_list_dict, isTy_dict_NoneType, isTy_dict_bool, isTy_dict_int, isTy_dict_str, isTy_dict_tuple, isTy_dict_list, isTy_dict_dict, eo_non, eo_bl, eo_int, eo_str, eo_tup, eo_lst, ev_nn, ev_ii, ev_bb, ev_ss, ev_tt, ev_ll, ea_nn, ea_nc, ea_cn, ea_cc, ea_mapd, ev_non_bl, ev_non_int, ev_non_str, ev_non_tup, ev_non_lst, ev_bl_non, ev_bl_str, ev_bl_tup, ev_bl_lst, ev_int_non, ev_int_str, ev_int_tup, ev_int_lst, ev_str_non, ev_str_bl, ev_str_int, ev_str_tup, ev_str_lst, ev_tup_non, ev_tup_bl, ev_tup_int, ev_tup_str, ev_tup_lst, ev_lst_non, ev_lst_bl, ev_lst_int, ev_lst_str, ev_lst_tup, wipeE_nil, wipeE_cons, cast_0, cast_1, cast_2, cast_3, cast_4, cast_5, cast_6, cast_7, cast_8, cast_9, cast_10, cast_11, cast_12, keysOf_nil, keysOf_cons, mergeS_nil, mergeS_cons, inR_s, sz_lt, sz_le, leq_nn, leq_nc, leq_cn, leq_cc, key_ss, key_ii, key_is, key_si, findK_nil, findK_cons, mapS_nil, mapS_cons, putS_nil, putS_cons, Option.bind_some, Option.map_some, Option.bind_none, Option.map_none, List.set_cons_zero, List.set_cons_succ, List.set_nil, List.getElem?_cons_zero, List.getElem?_cons_succ, List.length_cons, List.length_nil, List.nil_append, List.cons_append, List.map_cons, List.map_nil, if_true, if_false, Bool.false_eq_true, reduceIte, List.all_cons, List.all_nil, Bool.and_true, Bool.true_and, Bool.and_false, Bool.false_and, Bool.not_true, Bool.not_false, Bool.or_false, Bool.or_true, Bool.false_or, Bool.true_or, and_self, and_true, true_and, Int.toNat_natCast, decide_true, decide_false, List.take_zero, List.take_nil, List.take_succ_cons, List.drop_succ_cons, List.drop_zero, List.drop_nil, List.set_nil, List.replicate_succ, List.replicate_zero, List.foldl_cons, List.foldl_nil, Nat.reduceSub, Nat.reduceAdd, Nat.reduceLT, Nat.reduceLeDiff, Nat.reduceEqDiff, Nat.reduceMul, Int.reduceAdd, Int.reduceSub, Int.reduceMul, Int.reduceLT, Int.reduceLE, Int.reduceNeg, Int.reducePow, Int.reduceToNat, or_true, true_or, or_false, false_or, false_and, and_false, Nat.reducePow, not_true_eq_false, not_false_eq_true, Nat.add_zero, Nat.zero_add, Nat.sub_self, Nat.sub_zero, reduceCtorEq, Option.map_map, Int.reduceEq, Int.reduceNe, Int.reduceMod, Int.reduceDiv, List.append_nil, rngL_zero, at0, at1, at2, letterD, decide_eq_false e]
  | _ => simp -implicitDefEqProofs only [run_bind, run_some, run_none, run_map, a_var, a_c, a_op, a_un, a_chain, tst_b, a_test, a_and, a_or, a_not, a_andV, a_orV, a_notV, a_if, a_nil, a_cons, a_tup, a_lst, a_new, a_fn, a_isi, a_call, asI_i, a_part, a_noPart, a_cut, a_app, a_ext, a_index, a_sub, a_ps0, a_ps1, a_disp, a_lc, a_tt, a_skip, andThen_nx, andThen_rt, andThen_bk, andThen_ct, a_seq, a_expr, a_ret, a_retN, a_brk, a_cnt, a_ifS, a_set, a_aug, a_asg, two_eq, a_par, a_put, a_daug, a_for, a_scoped, frzO_nx, frzO_bk, frzO_ct, frzO_rt, frzS_d, frzS_r, frzE_nil, frzE_none, frzE_some, a_gN, a_gsNil, a_gsCons, a_gTp, asStr_s, a_strI, asRng_i, a_rng1, asRng2_i, a_rng2, chkOf_d, a_seqI, a_cYes, items_tup, items_lst, litems_lst, ditems_tup, ditems_lst, toD_d, dataAll_nil, dataAll_cons, dataAll_mapd, asD_d, v_ii, v_addI, v_addS, v_addT, v_addL, v_neg, v_ltI, v_ltS, v_eq, v_ne, v_inS, v_notInS, v_ixS, v_ixR, v_ixT, v_ixL, v_cutS, v_cutT, v_cutL, v_lenS, v_lenR, v_lenT, v_lenL, v_abs, v_int1, v_listT, v_listL, v_tupleT, v_tupleL, v_isN, v_notN, isN_non, isN_r, isN_bl, isN_int, isN_str, isN_tup, isN_lst, ty_non, ty_bl, ty_int, ty_str, ty_tup, ty_lst, keyOf_i, keyOf_s, gAddI_i, gSubI_i, index_s, idxKind_s, isDat_d, isDat_r, svB_d, svB_r, moB_lst, moB_dk, natAbs10, asL_l, asK_k, itL_l, liL_l, tdL_l, tdL_k, dsL_k, dsL_l, tyL_l, tyL_k, lstAt_r, dkAt_r, items_r, litems_r, toD_r, dkS_r, dkS_tup, dkS_lst, dkS_dk, dkS_str, tyS_r, v_ixRef, v_lenRef, v_cutRef, ditems_r, v_listRef, v_tupleRef, v_eqRef, v_neRef, v_addRR, v_addRL, v_addLR, finO_nx, finO_rt, finO_bk, finO_ct, isTy_int_NoneType, isTy_int_bool, isTy_int_int, isTy_int_str, isTy_int_tuple, isTy_int_list, isTy_int_dict, isTy_bool_NoneType, isTy_bool_bool, isTy_bool_int, isTy_bool_str, isTy_bool_tuple, isTy_bool_list, isTy_bool_dict, isTy_str_NoneType, isTy_str_bool, isTy_str_int, isTy_str_str, isTy_str_tuple, isTy_str_list, isTy_str_dict, isTy_tuple_NoneType, isTy_tuple_bool, isTy_tuple_int, isTy_tuple_str, isTy_tuple_tuple, isTy_tuple_list, isTy_tuple_dict, isTy_list_NoneType, isTy_list_bool, isTy_list_int, isTy_list_str, isTy_list_tuple, isTy_list_list, isTy_list_dict, isTy_dict_NoneType, isTy_dict_bool, isTy_dict_int, isTy_dict_str, isTy_dict_tuple, isTy_dict_list, isTy_dict_dict, eo_non, eo_bl, eo_int, eo_str, eo_tup, eo_lst, ev_nn, ev_ii, ev_bb, ev_ss, ev_tt, ev_ll, ea_nn, ea_nc, ea_cn, ea_cc, ea_mapd, ev_non_bl, ev_non_int, ev_non_str, ev_non_tup, ev_non_lst, ev_bl_non, ev_bl_str, ev_bl_tup, ev_bl_lst, ev_int_non, ev_int_str, ev_int_tup, ev_int_lst, ev_str_non, ev_str_bl, ev_str_int, ev_str_tup, ev_str_lst, ev_tup_non, ev_tup_bl, ev_tup_int, ev_tup_str, ev_tup_lst, ev_lst_non, ev_lst_bl, ev_lst_int, ev_lst_str, ev_lst_tup, wipeE_nil, wipeE_cons, cast_0, cast_1, cast_2, cast_3, cast_4, cast_5, cast_6, cast_7, cast_8, cast_9, cast_10, cast_11, cast_12, keysOf_nil, keysOf_cons, mergeS_nil, mergeS_cons, inR_s, sz_lt, sz_le, leq_nn, leq_nc, leq_cn, leq_cc, key_ss, key_ii, key_is, key_si, findK_nil, findK_cons, mapS_nil, mapS_cons, putS_nil, putS_cons, Option.bind_some, Option.map_some, Option.bind_none, Option.map_none, List.set_cons_zero, List.set_cons_succ, List.set_nil, List.getElem?_cons_zero, List.getElem?_cons_succ, List.length_cons, List.length_nil, List.nil_append, List.cons_append, List.map_cons, List.map_nil, if_true, if_false, Bool.false_eq_true, reduceIte, List.all_cons, List.all_nil, Bool.and_true, Bool.true_and, Bool.and_false, Bool.false_and, Bool.not_true, Bool.not_false, Bool.or_false, Bool.or_true, Bool.false_or, Bool.true_or, and_self, and_true, true_and, Int.toNat_natCast, decide_true, decide_false, List.take_zero, List.take_nil, List.take_succ_cons, List.drop_succ_cons, List.drop_zero, List.drop_nil, List.set_nil, List.replicate_succ, List.replicate_zero, List.foldl_cons, List.foldl_nil, Nat.reduceSub, Nat.reduceAdd, Nat.reduceLT, Nat.reduceLeDiff, Nat.reduceEqDiff, Nat.reduceMul, Int.reduceAdd, Int.reduceSub, Int.reduceMul, Int.reduceLT, Int.reduceLE, Int.reduceNeg, Int.reducePow, Int.reduceToNat, or_true, true_or, or_false, false_or, false_and, and_false, Nat.reducePow, not_true_eq_false, not_false_eq_true, Nat.add_zero, Nat.zero_add, Nat.sub_self, Nat.sub_zero, reduceCtorEq, Option.map_map, Int.reduceEq, Int.reduceNe, Int.reduceMod, Int.reduceDiv, List.append_nil, rngL_zero, at0, at1, at2, letterD]
theorem p_tup (n : Nat) (d : D) (h : eqOk 30 d = true) : F_is_tuple_of [.d d, .d (.int n)] [] = some (.d (.bl (tupD n d)), []) := by
  unfold F_is_tuple_of g_is_tuple_of
  rw [a_runF]
  cases d with
  | dk => unfold eqOk at h; cases h
  | scr => unfold eqOk at h; cases h
  | tup ps => simp -implicitDefEqProofs only [run_bind, run_some, run_none, run_map, a_var, a_c, a_op, a_un, a_chain, tst_b, a_test, a_and, a_or, a_not, a_andV, a_orV, a_notV, a_if, a_nil, a_cons, a_tup, a_lst, a_new, a_fn, a_isi, a_call, asI_i, a_part, a_noPart, a_cut, a_app, a_ext, a_index, a_sub, a_ps0, a_ps1, a_disp, a_lc, a_tt, a_skip, andThen_nx, andThen_rt, andThen_bk, andThen_ct, a_seq, a_expr, a_ret, a_retN, a_brk, a_cnt, a_ifS, a_set, a_aug, a_asg, two_eq, a_par, a_put, a_daug, a_for, a_scoped, frzO_nx, frzO_bk, frzO_ct, frzO_rt, frzS_d, frzS_r, frzE_nil, frzE_none, frzE_some, a_gN, a_gsNil, a_gsCons, a_gTp, asStr_s, a_strI, asRng_i, a_rng1, asRng2_i, a_rng2, chkOf_d, a_seqI, a_cYes, items_tup, items_lst, litems_lst, ditems_tup, ditems_lst, toD_d, dataAll_nil, dataAll_cons, dataAll_mapd, asD_d, v_ii, v_addI, v_addS, v_addT, v_addL, v_neg, v_ltI, v_ltS, v_eq, v_ne, v_inS, v_notInS, v_ixS, v_ixR, v_ixT, v_ixL, v_cutS, v_cutT, v_cutL, v_lenS, v_lenR, v_lenT, v_lenL, v_abs, v_int1, v_listT, v_listL, v_tupleT, v_tupleL, v_isN, v_notN, isN_non, isN_r, isN_bl, isN_int, isN_str, isN_tup, isN_lst, ty_non, ty_bl, ty_int, ty_str, ty_tup, ty_lst, keyOf_i, keyOf_s, gAddI_i, gSubI_i, index_s, idxKind_s, isDat_d, isDat_r, svB_d, svB_r, moB_lst, moB_dk, natAbs10, asL_l, asK_k, itL_l, liL_l, tdL_l, tdL_k, dsL_k, dsL_l, tyL_l, tyL_k, lstAt_r, dkAt_r, items_r, litems_r, toD_r, dkS_r, dkS_tup, dkS_lst, dkS_dk, dkS_str, tyS_r, v_ixRef, v_lenRef, v_cutRef, ditems_r, v_listRef, v_tupleRef, v_eqRef, v_neRef, v_addRR, v_addRL, v_addLR, finO_nx, finO_rt, finO_bk, finO_ct, isTy_int_NoneType, isTy_int_bool, isTy_int_int, isTy_int_str, isTy_int_tuple, isTy_int_list, isTy_int_dict, isTy_bool_NoneType, isTy_bool_bool, isTy_bool_int, isTy_bool_str, isTy_bool_tuple, isTy_bool_list, isTy_bool_dict, isTy_str_NoneType, isTy_str_bool, isTy_str_int, isTy_str_str, isTy_str_tuple, isTy_str_list, isTy_str_dict, isTy_tuple_NoneType, isTy_tuple_bool, isTy_tuple_int, isTy_tuple_str, isTy_tuple_tuple, isTy_tuple_list, isTy_tuple_dict, isTy_list_NoneType, isTy_list_bool, isTy_list_int, isTy_list_str, isTy_list_tuple, isTy_list_list, isTy_list_dict, isTy_dict_NoneType, isTy_dict_bool, isTy_dict_int, isTy_dict_str, isTy_dict_tuple, isTy_dict_list, isTy_dict_dict, eo_non, eo_bl, eo_int, eo_str, eo_tup, eo_lst, ev_nn, ev_ii, ev_bb, ev_ss, ev_tt, ev_ll, ea_nn, ea_nc, ea_cn, ea_cc, ea_mapd, ev_non_bl, ev_non_int, ev_non_str, ev_non_tup, ev_non_lst, ev_bl_non, ev_bl_str, ev_bl_tup, ev_bl_lst, ev_int_non, ev_int_str, ev_int_tup, ev_int_lst, ev_str_non, ev_str_bl, ev_str_int, ev_str_tup, ev_str_lst, ev_tup_non, ev_tup_bl, ev_tup_int, ev_tup_str, ev_tup_lst, ev_lst_non, ev_lst_bl, ev_lst_int, ev_lst_str, ev_lst_tup, wipeE_nil, wipeE_cons, cast_0, cast_1, cast_2, cast_3, cast_4, cast_5, cast_6, cast_7, cast_8, cast_9, cast_10, cast_11, cast_12, keysOf_nil, keysOf_cons, mergeS_nil, mergeS_cons, inR_s, sz_lt, sz_le, leq_nn, leq_nc, leq_cn, leq_cc, key_ss, key_ii, key_is, key_si, findK_nil, findK_cons, mapS_nil, mapS_cons, putS_nil, putS_cons, Option.bind_some, Option.map_some, Option.bind_none, Option.map_none, List.set_cons_zero, List.set_cons_succ, List.set_nil, List.getElem?_cons_zero, List.getElem?_cons_succ, List.length_cons, List.length_nil, List.nil_append, List.cons_append, List.map_cons, List.map_nil, if_true, if_false, Bool.false_eq_true, reduceIte, List.all_cons, List.all_nil, Bool.and_true, Bool.true_and, Bool.and_false, Bool.false_and, Bool.not_true, Bool.not_false, Bool.or_false, Bool.or_true, Bool.false_or, Bool.true_or, and_self, and_true, true_and, Int.toNat_natCast, decide_true, decide_false, List.take_zero, List.take_nil, List.take_succ_cons, List.drop_succ_cons, List.drop_zero, List.drop_nil, List.set_nil, List.replicate_succ, List.replicate_zero, List.foldl_cons, List.foldl_nil, Nat.reduceSub, Nat.reduceAdd, Nat.reduceLT, Nat.reduceLeDiff, Nat.reduceEqDiff, Nat.reduceMul, Int.reduceAdd, Int.reduceSub, Int.reduceMul, Int.reduceLT, Int.reduceLE, Int.reduceNeg, Int.reducePow, Int.reduceToNat, or_true, true_or, or_false, false_or, false_and, and_false, Nat.reducePow, not_true_eq_false, not_false_eq_true, Nat.add_zero, Nat.zero_add, Nat.sub_self, Nat.sub_zero, reduceCtorEq, Option.map_map, Int.reduceEq, Int.reduceNe, Int.reduceMod, Int.reduceDiv, List.append_nil, rngL_zero, at0, at1, at2, tupD, Int.ofNat_inj]
  | _ => simp -implicitDefEqProofs only [run_bind, run_some, run_none, run_map, a_var, a_c, a_op, a_un, a_chain, tst_b, a_test, a_and, a_or, a_not, a_andV, a_orV, a_notV, a_if, a_nil, a_cons, a_tup, a_lst, a_new, a_fn, a_isi, a_call, asI_i, a_part, a_noPart, a_cut, a_app, a_ext, a_index, a_sub, a_ps0, a_ps1, a_disp, a_lc, a_tt, a_skip, andThen_nx, andThen_rt, andThen_bk, andThen_ct, a_seq, a_expr, a_ret, a_retN, a_brk, a_cnt, a_ifS, a_set, a_aug, a_asg, two_eq, a_par, a_put, a_daug, a_for, a_scoped, frzO_nx, frzO_bk, frzO_ct, frzO_rt, frzS_d, frzS_r, frzE_nil, frzE_none, frzE_some, a_gN, a_gsNil, a_gsCons, a_gTp, asStr_s, a_strI, asRng_i, a_rng1, asRng2_i, a_rng2, chkOf_d, a_seqI, a_cYes, items_tup, items_lst, litems_lst, ditems_tup, ditems_lst, toD_d, dataAll_nil, dataAll_cons, dataAll_mapd, asD_d, v_ii, v_addI, v_addS, v_addT, v_addL, v_neg, v_ltI, v_ltS, v_eq, v_ne, v_inS, v_notInS, v_ixS, v_ixR, v_ixT, v_ixL, v_cutS, v_cutT, v_cutL, v_lenS, v_lenR, v_lenT, v_lenL, v_abs, v_int1, v_listT, v_listL, v_tupleT, v_tupleL, v_isN, v_notN, isN_non, isN_r, isN_bl, isN_int, isN_str, isN_tup, isN_lst, ty_non, ty_bl, ty_int, ty_str, ty_tup, ty_lst, keyOf_i, keyOf_s, gAddI_i, gSubI_i, index_s, idxKind_s, isDat_d, isDat_r, svB_d, svB_r, moB_lst, moB_dk, natAbs10, asL_l, asK_k, itL_l, liL_l, tdL_l, tdL_k, dsL_k, dsL_l, tyL_l, tyL_k, lstAt_r, dkAt_r, items_r, litems_r, toD_r, dkS_r, dkS_tup, dkS_lst, dkS_dk, dkS_str, tyS_r, v_ixRef, v_lenRef, v_cutRef, ditems_r, v_listRef, v_tupleRef, v_eqRef, v_neRef, v_addRR, v_addRL, v_addLR, finO_nx, finO_rt, finO_bk, finO_ct, isTy_int_NoneType, isTy_int_bool, isTy_int_int, isTy_int_str, isTy_int_tuple, isTy_int_list, isTy_int_dict, isTy_bool_NoneType, isTy_bool_bool, isTy_bool_int, isTy_bool_str, isTy_bool_tuple, isTy_bool_list, isTy_bool_dict, isTy_str_NoneType, isTy_str_bool, isTy_str_int, isTy_str_str, isTy_str_tuple, isTy_str_list, isTy_str_dict, isTy_tuple_NoneType, isTy_tuple_bool, isTy_tuple_int, isTy_tuple_str, isTy_tuple_tuple, isTy_tuple_list, isTy_tuple_dict, isTy_list_NoneType, isTy_list_bool, isTy_list_int, isTy_list_str, isTy_list_tuple, isTy_list_list, isTy_list_dict, isTy_dict_NoneType, isTy_dict_bool, isTy_dict_int, isTy_dict_str, isTy_dict_tuple, isTy_dict_list, isTy_dict_dict, eo_non, eo_bl, eo_int, eo_str, eo_tup, eo_lst, ev_nn, ev_ii, ev_bb, ev_ss, ev_tt, ev_ll, ea_nn, ea_nc, ea_cn, ea_cc, ea_mapd, ev_non_bl, ev_non_int, ev_non_str, ev_non_tup, ev_non_lst, ev_bl_non, ev_bl_str, ev_bl_tup, ev_bl_lst, ev_int_non, ev_int_str, ev_int_tup, ev_int_lst, ev_str_non, ev_str_bl, ev_str_int, ev_str_tup, ev_str_lst, ev_tup_non, ev_tup_bl, ev_tup_int, ev_tup_str, ev_tup_lst, ev_lst_non, ev_lst_bl, ev_lst_int, ev_lst_str, ev_lst_tup, wipeE_nil, wipeE_cons, cast_0, cast_1, cast_2, cast_3, cast_4, cast_5, cast_6, cast_7, cast_8, cast_9, cast_10, cast_11, cast_12, keysOf_nil, keysOf_cons, mergeS_nil, mergeS_cons, inR_s, sz_lt, sz_le, leq_nn, leq_nc, leq_cn, leq_cc, key_ss, key_ii, key_is, key_si, findK_nil, findK_cons, mapS_nil, mapS_cons, putS_nil, putS_cons, Option.bind_some, Option.map_some, Option.bind_none, Option.map_none, List.set_cons_zero, List.set_cons_succ, List.set_nil, List.getElem?_cons_zero, List.getElem?_cons_succ, List.length_cons, List.length_nil, List.nil_append, List.cons_append, List.map_cons, List.map_nil, if_true, if_false, Bool.false_eq_true, reduceIte, List.all_cons, List.all_nil, Bool.and_true, Bool.true_and, Bool.and_false, Bool.false_and, Bool.not_true, Bool.not_false, Bool.or_false, Bool.or_true, Bool.false_or, Bool.true_or, and_self, and_true, true_and, Int.toNat_natCast, decide_true, decide_false, List.take_zero, List.take_nil, List.take_succ_cons, List.drop_succ_cons, List.drop_zero, List.drop_nil, List.set_nil, List.replicate_succ, List.replicate_zero, List.foldl_cons, List.foldl_nil, Nat.reduceSub, Nat.reduceAdd, Nat.reduceLT, Nat.reduceLeDiff, Nat.reduceEqDiff, Nat.reduceMul, Int.reduceAdd, Int.reduceSub, Int.reduceMul, Int.reduceLT, Int.reduceLE, Int.reduceNeg, Int.reducePow, Int.reduceToNat, or_true, true_or, or_false, false_or, false_and, and_false, Nat.reducePow, not_true_eq_false, not_false_eq_true, Nat.add_zero, Nat.zero_add, Nat.sub_self, Nat.sub_zero, reduceCtorEq, Option.map_map, Int.reduceEq, Int.reduceNe, Int.reduceMod, Int.reduceDiv, List.append_nil, rngL_zero, at0, at1, at2, tupD]
theorem ok29 {ps : List D} (h : eqOk 30 (.tup ps) = true) : ∀ x ∈ ps, eqOk 30 x = true := by
  rw [eo_tup, List.all_eq_true] at h
  exact fun x hx => eqOk_up _ _ (h x hx)
theorem p_isbox (v : D) (s : List Nat) (h : eqOk 30 v = true) : F_is_box [.d v, .d (.str s)] [] = some (.d (.bl (boxD s.length v)), []) := by
  unfold F_is_box g_is_box
  rw [a_runF]
  cases v with
  | dk => unfold eqOk at h; cases h
  | scr => unfold eqOk at h; cases h
  | tup rows =>
    have h29 := ok29 h
    rw [eo_tup] at h
    apply Run.eq
    simp -implicitDefEqProofs only [run_bind, run_some, run_none, run_map, a_var, a_c, a_op, a_un, a_chain, tst_b, a_test, a_and, a_or, a_not, a_andV, a_orV, a_notV, a_if, a_nil, a_cons, a_tup, a_lst, a_new, a_fn, a_isi, a_call, asI_i, a_part, a_noPart, a_cut, a_app, a_ext, a_index, a_sub, a_ps0, a_ps1, a_disp, a_lc, a_tt, a_skip, andThen_nx, andThen_rt, andThen_bk, andThen_ct, a_seq, a_expr, a_ret, a_retN, a_brk, a_cnt, a_ifS, a_set, a_aug, a_asg, two_eq, a_par, a_put, a_daug, a_for, a_scoped, frzO_nx, frzO_bk, frzO_ct, frzO_rt, frzS_d, frzS_r, frzE_nil, frzE_none, frzE_some, a_gN, a_gsNil, a_gsCons, a_gTp, asStr_s, a_strI, asRng_i, a_rng1, asRng2_i, a_rng2, chkOf_d, a_seqI, a_cYes, items_tup, items_lst, litems_lst, ditems_tup, ditems_lst, toD_d, dataAll_nil, dataAll_cons, dataAll_mapd, asD_d, v_ii, v_addI, v_addS, v_addT, v_addL, v_neg, v_ltI, v_ltS, v_eq, v_ne, v_inS, v_notInS, v_ixS, v_ixR, v_ixT, v_ixL, v_cutS, v_cutT, v_cutL, v_lenS, v_lenR, v_lenT, v_lenL, v_abs, v_int1, v_listT, v_listL, v_tupleT, v_tupleL, v_isN, v_notN, isN_non, isN_r, isN_bl, isN_int, isN_str, isN_tup, isN_lst, ty_non, ty_bl, ty_int, ty_str, ty_tup, ty_lst, keyOf_i, keyOf_s, gAddI_i, gSubI_i, index_s, idxKind_s, isDat_d, isDat_r, svB_d, svB_r, moB_lst, moB_dk, natAbs10, asL_l, asK_k, itL_l, liL_l, tdL_l, tdL_k, dsL_k, dsL_l, tyL_l, tyL_k, lstAt_r, dkAt_r, items_r, litems_r, toD_r, dkS_r, dkS_tup, dkS_lst, dkS_dk, dkS_str, tyS_r, v_ixRef, v_lenRef, v_cutRef, ditems_r, v_listRef, v_tupleRef, v_eqRef, v_neRef, v_addRR, v_addRL, v_addLR, finO_nx, finO_rt, finO_bk, finO_ct, isTy_int_NoneType, isTy_int_bool, isTy_int_int, isTy_int_str, isTy_int_tuple, isTy_int_list, isTy_int_dict, isTy_bool_NoneType, isTy_bool_bool, isTy_bool_int, isTy_bool_str, isTy_bool_tuple, isTy_bool_list, isTy_bool_dict, isTy_str_NoneType, isTy_str_bool, isTy_str_int, isTy_str_str, isTy_str_tuple, isTy_str_list, isTy_str_dict, isTy_tuple_NoneType, isTy_tuple_bool, isTy_tuple_int, isTy_tuple_str, isTy_tuple_tuple, isTy_tuple_list, isTy_tuple_dict, isTy_list_NoneType, isTy_list_bool, isTy_list_int, isTy_list_str, isTy_list_tuple, isTy_list_list, isTy_list_dict, isTy_dict_NoneType, isTy_dict_bool, isTy_dict_int, isTy_dict_str, isTy_dict_tuple, isTy_dict_list, isTy_dict_dict, eo_non, eo_bl, eo_int, eo_str, eo_tup, eo_lst, ev_nn, ev_ii, ev_bb, ev_ss, ev_tt, ev_ll, ea_nn, ea_nc, ea_cn, ea_cc, ea_mapd, ev_non_bl, ev_non_int, ev_non_str, ev_non_tup, ev_non_lst, ev_bl_non, ev_bl_str, ev_bl_tup, ev_bl_lst, ev_int_non, ev_int_str, ev_int_tup, ev_int_lst, ev_str_non, ev_str_bl, ev_str_int, ev_str_tup, ev_str_lst, ev_tup_non, ev_tup_bl, ev_tup_int, ev_tup_str, ev_tup_lst, ev_lst_non, ev_lst_bl, ev_lst_int, ev_lst_str, ev_lst_tup, wipeE_nil, wipeE_cons, cast_0, cast_1, cast_2, cast_3, cast_4, cast_5, cast_6, cast_7, cast_8, cast_9, cast_10, cast_11, cast_12, keysOf_nil, keysOf_cons, mergeS_nil, mergeS_cons, inR_s, sz_lt, sz_le, leq_nn, leq_nc, leq_cn, leq_cc, key_ss, key_ii, key_is, key_si, findK_nil, findK_cons, mapS_nil, mapS_cons, putS_nil, putS_cons, Option.bind_some, Option.map_some, Option.bind_none, Option.map_none, List.set_cons_zero, List.set_cons_succ, List.set_nil, List.getElem?_cons_zero, List.getElem?_cons_succ, List.length_cons, List.length_nil, List.nil_append, List.cons_append, List.map_cons, List.map_nil, if_true, if_false, Bool.false_eq_true, reduceIte, List.all_cons, List.all_nil, Bool.and_true, Bool.true_and, Bool.and_false, Bool.false_and, Bool.not_true, Bool.not_false, Bool.or_false, Bool.or_true, Bool.false_or, Bool.true_or, and_self, and_true, true_and, Int.toNat_natCast, decide_true, decide_false, List.take_zero, List.take_nil, List.take_succ_cons, List.drop_succ_cons, List.drop_zero, List.drop_nil, List.set_nil, List.replicate_succ, List.replicate_zero, List.foldl_cons, List.foldl_nil, Nat.reduceSub, Nat.reduceAdd, Nat.reduceLT, Nat.reduceLeDiff, Nat.reduceEqDiff, Nat.reduceMul, Int.reduceAdd, Int.reduceSub, Int.reduceMul, Int.reduceLT, Int.reduceLE, Int.reduceNeg, Int.reducePow, Int.reduceToNat, or_true, true_or, or_false, false_or, false_and, and_false, Nat.reducePow, not_true_eq_false, not_false_eq_true, Nat.add_zero, Nat.zero_add, Nat.sub_self, Nat.sub_zero, reduceCtorEq, Option.map_map, Int.reduceEq, Int.reduceNe, Int.reduceMod, Int.reduceDiv, List.append_nil, rngL_zero, at0, at1, at2, h, ea_n]
    cases rows with
    | nil => simp -implicitDefEqProofs only [run_bind, run_some, run_none, run_map, a_var, a_c, a_op, a_un, a_chain, tst_b, a_test, a_and, a_or, a_not, a_andV, a_orV, a_notV, a_if, a_nil, a_cons, a_tup, a_lst, a_new, a_fn, a_isi, a_call, asI_i, a_part, a_noPart, a_cut, a_app, a_ext, a_index, a_sub, a_ps0, a_ps1, a_disp, a_lc, a_tt, a_skip, andThen_nx, andThen_rt, andThen_bk, andThen_ct, a_seq, a_expr, a_ret, a_retN, a_brk, a_cnt, a_ifS, a_set, a_aug, a_asg, two_eq, a_par, a_put, a_daug, a_for, a_scoped, frzO_nx, frzO_bk, frzO_ct, frzO_rt, frzS_d, frzS_r, frzE_nil, frzE_none, frzE_some, a_gN, a_gsNil, a_gsCons, a_gTp, asStr_s, a_strI, asRng_i, a_rng1, asRng2_i, a_rng2, chkOf_d, a_seqI, a_cYes, items_tup, items_lst, litems_lst, ditems_tup, ditems_lst, toD_d, dataAll_nil, dataAll_cons, dataAll_mapd, asD_d, v_ii, v_addI, v_addS, v_addT, v_addL, v_neg, v_ltI, v_ltS, v_eq, v_ne, v_inS, v_notInS, v_ixS, v_ixR, v_ixT, v_ixL, v_cutS, v_cutT, v_cutL, v_lenS, v_lenR, v_lenT, v_lenL, v_abs, v_int1, v_listT, v_listL, v_tupleT, v_tupleL, v_isN, v_notN, isN_non, isN_r, isN_bl, isN_int, isN_str, isN_tup, isN_lst, ty_non, ty_bl, ty_int, ty_str, ty_tup, ty_lst, keyOf_i, keyOf_s, gAddI_i, gSubI_i, index_s, idxKind_s, isDat_d, isDat_r, svB_d, svB_r, moB_lst, moB_dk, natAbs10, asL_l, asK_k, itL_l, liL_l, tdL_l, tdL_k, dsL_k, dsL_l, tyL_l, tyL_k, lstAt_r, dkAt_r, items_r, litems_r, toD_r, dkS_r, dkS_tup, dkS_lst, dkS_dk, dkS_str, tyS_r, v_ixRef, v_lenRef, v_cutRef, ditems_r, v_listRef, v_tupleRef, v_eqRef, v_neRef, v_addRR, v_addRL, v_addLR, finO_nx, finO_rt, finO_bk, finO_ct, isTy_int_NoneType, isTy_int_bool, isTy_int_int, isTy_int_str, isTy_int_tuple, isTy_int_list, isTy_int_dict, isTy_bool_NoneType, isTy_bool_bool, isTy_bool_int, isTy_bool_str, isTy_bool_tuple, isTy_bool_list, isTy_bool_dict, isTy_str_NoneType, isTy_str_bool, isTy_str_int, isTy_str_str, isTy_str_tuple, isTy_str_list, isTy_str_dict, isTy_tuple_NoneType, isTy_tuple_bool, isTy_tuple_int, isTy_tuple_str, isTy_tuple_tuple, isTy_tuple_list, isTy_tuple_dict, isTy_list_NoneType, isTy_list_bool, isTy_list_int, isTy_list_str, isTy_list_tuple, isTy_list_list, isTy_list_dict, isTy_dict_NoneType, isTy_dict_bool, isTy_dict_int, isTy_dict_str, isTy_dict_tuple, isTy_dict_list, isTy_dict_dict, eo_non, eo_bl, eo_int, eo_str, eo_tup, eo_lst, ev_nn, ev_ii, ev_bb, ev_ss, ev_tt, ev_ll, ea_nn, ea_nc, ea_cn, ea_cc, ea_mapd, ev_non_bl, ev_non_int, ev_non_str, ev_non_tup, ev_non_lst, ev_bl_non, ev_bl_str, ev_bl_tup, ev_bl_lst, ev_int_non, ev_int_str, ev_int_tup, ev_int_lst, ev_str_non, ev_str_bl, ev_str_int, ev_str_tup, ev_str_lst, ev_tup_non, ev_tup_bl, ev_tup_int, ev_tup_str, ev_tup_lst, ev_lst_non, ev_lst_bl, ev_lst_int, ev_lst_str, ev_lst_tup, wipeE_nil, wipeE_cons, cast_0, cast_1, cast_2, cast_3, cast_4, cast_5, cast_6, cast_7, cast_8, cast_9, cast_10, cast_11, cast_12, keysOf_nil, keysOf_cons, mergeS_nil, mergeS_cons, inR_s, sz_lt, sz_le, leq_nn, leq_nc, leq_cn, leq_cc, key_ss, key_ii, key_is, key_si, findK_nil, findK_cons, mapS_nil, mapS_cons, putS_nil, putS_cons, Option.bind_some, Option.map_some, Option.bind_none, Option.map_none, List.set_cons_zero, List.set_cons_succ, List.set_nil, List.getElem?_cons_zero, List.getElem?_cons_succ, List.length_cons, List.length_nil, List.nil_append, List.cons_append, List.map_cons, List.map_nil, if_true, if_false, Bool.false_eq_true, reduceIte, List.all_cons, List.all_nil, Bool.and_true, Bool.true_and, Bool.and_false, Bool.false_and, Bool.not_true, Bool.not_false, Bool.or_false, Bool.or_true, Bool.false_or, Bool.true_or, and_self, and_true, true_and, Int.toNat_natCast, decide_true, decide_false, List.take_zero, List.take_nil, List.take_succ_cons, List.drop_succ_cons, List.drop_zero, List.drop_nil, List.set_nil, List.replicate_succ, List.replicate_zero, List.foldl_cons, List.foldl_nil, Nat.reduceSub, Nat.reduceAdd, Nat.reduceLT, Nat.reduceLeDiff, Nat.reduceEqDiff, Nat.reduceMul, Int.reduceAdd, Int.reduceSub, Int.reduceMul, Int.reduceLT, Int.reduceLE, Int.reduceNeg, Int.reducePow, Int.reduceToNat, or_true, true_or, or_false, false_or, false_and, and_false, Nat.reducePow, not_true_eq_false, not_false_eq_true, Nat.add_zero, Nat.zero_add, Nat.sub_self, Nat.sub_zero, reduceCtorEq, Option.map_map, Int.reduceEq, Int.reduceNe, Int.reduceMod, Int.reduceDiv, List.append_nil, rngL_zero, at0, at1, at2, boxD, List.isEmpty_nil]
    | cons r0 rest =>
      generalize hrows : r0 :: rest = rows at h29 ⊢
      have hne : rows.isEmpty = false := by rw [← hrows]; rfl
      simp -implicitDefEqProofs only [run_bind, run_some, run_none, run_map, a_var, a_c, a_op, a_un, a_chain, tst_b, a_test, a_and, a_or, a_not, a_andV, a_orV, a_notV, a_if, a_nil, a_cons, a_tup, a_lst, a_new, a_fn, a_isi, a_call, asI_i, a_part, a_noPart, a_cut, a_app, a_ext, a_index, a_sub, a_ps0, a_ps1, a_disp, a_lc, a_tt, a_skip, andThen_nx, andThen_rt, andThen_bk, andThen_ct, a_seq, a_expr, a_ret, a_retN, a_brk, a_cnt, a_ifS, a_set, a_aug, a_asg, two_eq, a_par, a_put, a_daug, a_for, a_scoped, frzO_nx, frzO_bk, frzO_ct, frzO_rt, frzS_d, frzS_r, frzE_nil, frzE_none, frzE_some, a_gN, a_gsNil, a_gsCons, a_gTp, asStr_s, a_strI, asRng_i, a_rng1, asRng2_i, a_rng2, chkOf_d, a_seqI, a_cYes, items_tup, items_lst, litems_lst, ditems_tup, ditems_lst, toD_d, dataAll_nil, dataAll_cons, dataAll_mapd, asD_d, v_ii, v_addI, v_addS, v_addT, v_addL, v_neg, v_ltI, v_ltS, v_eq, v_ne, v_inS, v_notInS, v_ixS, v_ixR, v_ixT, v_ixL, v_cutS, v_cutT, v_cutL, v_lenS, v_lenR, v_lenT, v_lenL, v_abs, v_int1, v_listT, v_listL, v_tupleT, v_tupleL, v_isN, v_notN, isN_non, isN_r, isN_bl, isN_int, isN_str, isN_tup, isN_lst, ty_non, ty_bl, ty_int, ty_str, ty_tup, ty_lst, keyOf_i, keyOf_s, gAddI_i, gSubI_i, index_s, idxKind_s, isDat_d, isDat_r, svB_d, svB_r, moB_lst, moB_dk, natAbs10, asL_l, asK_k, itL_l, liL_l, tdL_l, tdL_k, dsL_k, dsL_l, tyL_l, tyL_k, lstAt_r, dkAt_r, items_r, litems_r, toD_r, dkS_r, dkS_tup, dkS_lst, dkS_dk, dkS_str, tyS_r, v_ixRef, v_lenRef, v_cutRef, ditems_r, v_listRef, v_tupleRef, v_eqRef, v_neRef, v_addRR, v_addRL, v_addLR, finO_nx, finO_rt, finO_bk, finO_ct, isTy_int_NoneType, isTy_int_bool, isTy_int_int, isTy_int_str, isTy_int_tuple, isTy_int_list, isTy_int_dict, isTy_bool_NoneType, isTy_bool_bool, isTy_bool_int, isTy_bool_str, isTy_bool_tuple, isTy_bool_list, isTy_bool_dict, isTy_str_NoneType, isTy_str_bool, isTy_str_int, isTy_str_str, isTy_str_tuple, isTy_str_list, isTy_str_dict, isTy_tuple_NoneType, isTy_tuple_bool, isTy_tuple_int, isTy_tuple_str, isTy_tuple_tuple, isTy_tuple_list, isTy_tuple_dict, isTy_list_NoneType, isTy_list_bool, isTy_list_int, isTy_list_str, isTy_list_tuple, isTy_list_list, isTy_list_dict, isTy_dict_NoneType, isTy_dict_bool, isTy_dict_int, isTy_dict_str, isTy_dict_tuple, isTy_dict_list, isTy_dict_dict, eo_non, eo_bl, eo_int, eo_str, eo_tup, eo_lst, ev_nn, ev_ii, ev_bb, ev_ss, ev_tt, ev_ll, ea_nn, ea_nc, ea_cn, ea_cc, ea_mapd, ev_non_bl, ev_non_int, ev_non_str, ev_non_tup, ev_non_lst, ev_bl_non, ev_bl_str, ev_bl_tup, ev_bl_lst, ev_int_non, ev_int_str, ev_int_tup, ev_int_lst, ev_str_non, ev_str_bl, ev_str_int, ev_str_tup, ev_str_lst, ev_tup_non, ev_tup_bl, ev_tup_int, ev_tup_str, ev_tup_lst, ev_lst_non, ev_lst_bl, ev_lst_int, ev_lst_str, ev_lst_tup, wipeE_nil, wipeE_cons, cast_0, cast_1, cast_2, cast_3, cast_4, cast_5, cast_6, cast_7, cast_8, cast_9, cast_10, cast_11, cast_12, keysOf_nil, keysOf_cons, mergeS_nil, mergeS_cons, inR_s, sz_lt, sz_le, leq_nn, leq_nc, leq_cn, leq_cc, key_ss, key_ii, key_is, key_si, findK_nil, findK_cons, mapS_nil, mapS_cons, putS_nil, putS_cons, Option.bind_some, Option.map_some, Option.bind_none, Option.map_none, List.set_cons_zero, List.set_cons_succ, List.set_nil, List.getElem?_cons_zero, List.getElem?_cons_succ, List.length_cons, List.length_nil, List.nil_append, List.cons_append, List.map_cons, List.map_nil, if_true, if_false, Bool.false_eq_true, reduceIte, List.all_cons, List.all_nil, Bool.and_true, Bool.true_and, Bool.and_false, Bool.false_and, Bool.not_true, Bool.not_false, Bool.or_false, Bool.or_true, Bool.false_or, Bool.true_or, and_self, and_true, true_and, Int.toNat_natCast, decide_true, decide_false, List.take_zero, List.take_nil, List.take_succ_cons, List.drop_succ_cons, List.drop_zero, List.drop_nil, List.set_nil, List.replicate_succ, List.replicate_zero, List.foldl_cons, List.foldl_nil, Nat.reduceSub, Nat.reduceAdd, Nat.reduceLT, Nat.reduceLeDiff, Nat.reduceEqDiff, Nat.reduceMul, Int.reduceAdd, Int.reduceSub, Int.reduceMul, Int.reduceLT, Int.reduceLE, Int.reduceNeg, Int.reducePow, Int.reduceToNat, or_true, true_or, or_false, false_or, false_and, and_false, Nat.reducePow, not_true_eq_false, not_false_eq_true, Nat.add_zero, Nat.zero_add, Nat.sub_self, Nat.sub_zero, reduceCtorEq, Option.map_map, Int.reduceEq, Int.reduceNe, Int.reduceMod, Int.reduceDiv, List.append_nil, rngL_zero, at0, at1, at2, hne]
      refine (forL_all (v := .d (.bl false)) (fun δ => ∃ o2 o3, δ = [some (.d (.tup rows)), some (.d (.str s)), o2, o3] ∧ okO o2 ∧ okO o3) SV.d (rowD s.length rows.length) rows ⟨none, none, rfl, okO_none, okO_none⟩ ?_).mono ?_
      · rintro x hx δ ⟨o2, o3, rfl, k2, k3⟩
        have hx30 := h29 x hx
        have e := callM_pure [] (p_tup s.length x hx30)
        simp -implicitDefEqProofs only [run_bind, run_some, run_none, run_map, a_var, a_c, a_op, a_un, a_chain, tst_b, a_test, a_and, a_or, a_not, a_andV, a_orV, a_notV, a_if, a_nil, a_cons, a_tup, a_lst, a_new, a_fn, a_isi, a_call, asI_i, a_part, a_noPart, a_cut, a_app, a_ext, a_index, a_sub, a_ps0, a_ps1, a_disp, a_lc, a_tt, a_skip, andThen_nx, andThen_rt, andThen_bk, andThen_ct, a_seq, a_expr, a_ret, a_retN, a_brk, a_cnt, a_ifS, a_set, a_aug, a_asg, two_eq, a_par, a_put, a_daug, a_for, a_scoped, frzO_nx, frzO_bk, frzO_ct, frzO_rt, frzS_d, frzS_r, frzE_nil, frzE_none, frzE_some, a_gN, a_gsNil, a_gsCons, a_gTp, asStr_s, a_strI, asRng_i, a_rng1, asRng2_i, a_rng2, chkOf_d, a_seqI, a_cYes, items_tup, items_lst, litems_lst, ditems_tup, ditems_lst, toD_d, dataAll_nil, dataAll_cons, dataAll_mapd, asD_d, v_ii, v_addI, v_addS, v_addT, v_addL, v_neg, v_ltI, v_ltS, v_eq, v_ne, v_inS, v_notInS, v_ixS, v_ixR, v_ixT, v_ixL, v_cutS, v_cutT, v_cutL, v_lenS, v_lenR, v_lenT, v_lenL, v_abs, v_int1, v_listT, v_listL, v_tupleT, v_tupleL, v_isN, v_notN, isN_non, isN_r, isN_bl, isN_int, isN_str, isN_tup, isN_lst, ty_non, ty_bl, ty_int, ty_str, ty_tup, ty_lst, keyOf_i, keyOf_s, gAddI_i, gSubI_i, index_s, idxKind_s, isDat_d, isDat_r, svB_d, svB_r, moB_lst, moB_dk, natAbs10, asL_l, asK_k, itL_l, liL_l, tdL_l, tdL_k, dsL_k, dsL_l, tyL_l, tyL_k, lstAt_r, dkAt_r, items_r, litems_r, toD_r, dkS_r, dkS_tup, dkS_lst, dkS_dk, dkS_str, tyS_r, v_ixRef, v_lenRef, v_cutRef, ditems_r, v_listRef, v_tupleRef, v_eqRef, v_neRef, v_addRR, v_addRL, v_addLR, finO_nx, finO_rt, finO_bk, finO_ct, isTy_int_NoneType, isTy_int_bool, isTy_int_int, isTy_int_str, isTy_int_tuple, isTy_int_list, isTy_int_dict, isTy_bool_NoneType, isTy_bool_bool, isTy_bool_int, isTy_bool_str, isTy_bool_tuple, isTy_bool_list, isTy_bool_dict, isTy_str_NoneType, isTy_str_bool, isTy_str_int, isTy_str_str, isTy_str_tuple, isTy_str_list, isTy_str_dict, isTy_tuple_NoneType, isTy_tuple_bool, isTy_tuple_int, isTy_tuple_str, isTy_tuple_tuple, isTy_tuple_list, isTy_tuple_dict, isTy_list_NoneType, isTy_list_bool, isTy_list_int, isTy_list_str, isTy_list_tuple, isTy_list_list, isTy_list_dict, isTy_dict_NoneType, isTy_dict_bool, isTy_dict_int, isTy_dict_str, isTy_dict_tuple, isTy_dict_list, isTy_dict_dict, eo_non, eo_bl, eo_int, eo_str, eo_tup, eo_lst, ev_nn, ev_ii, ev_bb, ev_ss, ev_tt, ev_ll, ea_nn, ea_nc, ea_cn, ea_cc, ea_mapd, ev_non_bl, ev_non_int, ev_non_str, ev_non_tup, ev_non_lst, ev_bl_non, ev_bl_str, ev_bl_tup, ev_bl_lst, ev_int_non, ev_int_str, ev_int_tup, ev_int_lst, ev_str_non, ev_str_bl, ev_str_int, ev_str_tup, ev_str_lst, ev_tup_non, ev_tup_bl, ev_tup_int, ev_tup_str, ev_tup_lst, ev_lst_non, ev_lst_bl, ev_lst_int, ev_lst_str, ev_lst_tup, wipeE_nil, wipeE_cons, cast_0, cast_1, cast_2, cast_3, cast_4, cast_5, cast_6, cast_7, cast_8, cast_9, cast_10, cast_11, cast_12, keysOf_nil, keysOf_cons, mergeS_nil, mergeS_cons, inR_s, sz_lt, sz_le, leq_nn, leq_nc, leq_cn, leq_cc, key_ss, key_ii, key_is, key_si, findK_nil, findK_cons, mapS_nil, mapS_cons, putS_nil, putS_cons, Option.bind_some, Option.map_some, Option.bind_none, Option.map_none, List.set_cons_zero, List.set_cons_succ, List.set_nil, List.getElem?_cons_zero, List.getElem?_cons_succ, List.length_cons, List.length_nil, List.nil_append, List.cons_append, List.map_cons, List.map_nil, if_true, if_false, Bool.false_eq_true, reduceIte, List.all_cons, List.all_nil, Bool.and_true, Bool.true_and, Bool.and_false, Bool.false_and, Bool.not_true, Bool.not_false, Bool.or_false, Bool.or_true, Bool.false_or, Bool.true_or, and_self, and_true, true_and, Int.toNat_natCast, decide_true, decide_false, List.take_zero, List.take_nil, List.take_succ_cons, List.drop_succ_cons, List.drop_zero, List.drop_nil, List.set_nil, List.replicate_succ, List.replicate_zero, List.foldl_cons, List.foldl_nil, Nat.reduceSub, Nat.reduceAdd, Nat.reduceLT, Nat.reduceLeDiff, Nat.reduceEqDiff, Nat.reduceMul, Int.reduceAdd, Int.reduceSub, Int.reduceMul, Int.reduceLT, Int.reduceLE, Int.reduceNeg, Int.reducePow, Int.reduceToNat, or_true, true_or, or_false, false_or, false_and, and_false, Nat.reducePow, not_true_eq_false, not_false_eq_true, Nat.add_zero, Nat.zero_add, Nat.sub_self, Nat.sub_zero, reduceCtorEq, Option.map_map, Int.reduceEq, Int.reduceNe, Int.reduceMod, Int.reduceDiv, List.append_nil, rngL_zero, at0, at1, at2, e]
        cases x with
        | tup ps =>
          by_cases hl : ps.length = s.length
          · have hp := ok29 hx30
            simp -implicitDefEqProofs only [run_bind, run_some, run_none, run_map, a_var, a_c, a_op, a_un, a_chain, tst_b, a_test, a_and, a_or, a_not, a_andV, a_orV, a_notV, a_if, a_nil, a_cons, a_tup, a_lst, a_new, a_fn, a_isi, a_call, asI_i, a_part, a_noPart, a_cut, a_app, a_ext, a_index, a_sub, a_ps0, a_ps1, a_disp, a_lc, a_tt, a_skip, andThen_nx, andThen_rt, andThen_bk, andThen_ct, a_seq, a_expr, a_ret, a_retN, a_brk, a_cnt, a_ifS, a_set, a_aug, a_asg, two_eq, a_par, a_put, a_daug, a_for, a_scoped, frzO_nx, frzO_bk, frzO_ct, frzO_rt, frzS_d, frzS_r, frzE_nil, frzE_none, frzE_some, a_gN, a_gsNil, a_gsCons, a_gTp, asStr_s, a_strI, asRng_i, a_rng1, asRng2_i, a_rng2, chkOf_d, a_seqI, a_cYes, items_tup, items_lst, litems_lst, ditems_tup, ditems_lst, toD_d, dataAll_nil, dataAll_cons, dataAll_mapd, asD_d, v_ii, v_addI, v_addS, v_addT, v_addL, v_neg, v_ltI, v_ltS, v_eq, v_ne, v_inS, v_notInS, v_ixS, v_ixR, v_ixT, v_ixL, v_cutS, v_cutT, v_cutL, v_lenS, v_lenR, v_lenT, v_lenL, v_abs, v_int1, v_listT, v_listL, v_tupleT, v_tupleL, v_isN, v_notN, isN_non, isN_r, isN_bl, isN_int, isN_str, isN_tup, isN_lst, ty_non, ty_bl, ty_int, ty_str, ty_tup, ty_lst, keyOf_i, keyOf_s, gAddI_i, gSubI_i, index_s, idxKind_s, isDat_d, isDat_r, svB_d, svB_r, moB_lst, moB_dk, natAbs10, asL_l, asK_k, itL_l, liL_l, tdL_l, tdL_k, dsL_k, dsL_l, tyL_l, tyL_k, lstAt_r, dkAt_r, items_r, litems_r, toD_r, dkS_r, dkS_tup, dkS_lst, dkS_dk, dkS_str, tyS_r, v_ixRef, v_lenRef, v_cutRef, ditems_r, v_listRef, v_tupleRef, v_eqRef, v_neRef, v_addRR, v_addRL, v_addLR, finO_nx, finO_rt, finO_bk, finO_ct, isTy_int_NoneType, isTy_int_bool, isTy_int_int, isTy_int_str, isTy_int_tuple, isTy_int_list, isTy_int_dict, isTy_bool_NoneType, isTy_bool_bool, isTy_bool_int, isTy_bool_str, isTy_bool_tuple, isTy_bool_list, isTy_bool_dict, isTy_str_NoneType, isTy_str_bool, isTy_str_int, isTy_str_str, isTy_str_tuple, isTy_str_list, isTy_str_dict, isTy_tuple_NoneType, isTy_tuple_bool, isTy_tuple_int, isTy_tuple_str, isTy_tuple_tuple, isTy_tuple_list, isTy_tuple_dict, isTy_list_NoneType, isTy_list_bool, isTy_list_int, isTy_list_str, isTy_list_tuple, isTy_list_list, isTy_list_dict, isTy_dict_NoneType, isTy_dict_bool, isTy_dict_int, isTy_dict_str, isTy_dict_tuple, isTy_dict_list, isTy_dict_dict, eo_non, eo_bl, eo_int, eo_str, eo_tup, eo_lst, ev_nn, ev_ii, ev_bb, ev_ss, ev_tt, ev_ll, ea_nn, ea_nc, ea_cn, ea_cc, ea_mapd, ev_non_bl, ev_non_int, ev_non_str, ev_non_tup, ev_non_lst, ev_bl_non, ev_bl_str, ev_bl_tup, ev_bl_lst, ev_int_non, ev_int_str, ev_int_tup, ev_int_lst, ev_str_non, ev_str_bl, ev_str_int, ev_str_tup, ev_str_lst, ev_tup_non, ev_tup_bl, ev_tup_int, ev_tup_str, ev_tup_lst, ev_lst_non, ev_lst_bl, ev_lst_int, ev_lst_str, ev_lst_tup, wipeE_nil, wipeE_cons, cast_0, cast_1, cast_2, cast_3, cast_4, cast_5, cast_6, cast_7, cast_8, cast_9, cast_10, cast_11, cast_12, keysOf_nil, keysOf_cons, mergeS_nil, mergeS_cons, inR_s, sz_lt, sz_le, leq_nn, leq_nc, leq_cn, leq_cc, key_ss, key_ii, key_is, key_si, findK_nil, findK_cons, mapS_nil, mapS_cons, putS_nil, putS_cons, Option.bind_some, Option.map_some, Option.bind_none, Option.map_none, List.set_cons_zero, List.set_cons_succ, List.set_nil, List.getElem?_cons_zero, List.getElem?_cons_succ, List.length_cons, List.length_nil, List.nil_append, List.cons_append, List.map_cons, List.map_nil, if_true, if_false, Bool.false_eq_true, reduceIte, List.all_cons, List.all_nil, Bool.and_true, Bool.true_and, Bool.and_false, Bool.false_and, Bool.not_true, Bool.not_false, Bool.or_false, Bool.or_true, Bool.false_or, Bool.true_or, and_self, and_true, true_and, Int.toNat_natCast, decide_true, decide_false, List.take_zero, List.take_nil, List.take_succ_cons, List.drop_succ_cons, List.drop_zero, List.drop_nil, List.set_nil, List.replicate_succ, List.replicate_zero, List.foldl_cons, List.foldl_nil, Nat.reduceSub, Nat.reduceAdd, Nat.reduceLT, Nat.reduceLeDiff, Nat.reduceEqDiff, Nat.reduceMul, Int.reduceAdd, Int.reduceSub, Int.reduceMul, Int.reduceLT, Int.reduceLE, Int.reduceNeg, Int.reducePow, Int.reduceToNat, or_true, true_or, or_false, false_or, false_and, and_false, Nat.reducePow, not_true_eq_false, not_false_eq_true, Nat.add_zero, Nat.zero_add, Nat.sub_self, Nat.sub_zero, reduceCtorEq, Option.map_map, Int.reduceEq, Int.reduceNe, Int.reduceMod, Int.reduceDiv, List.append_nil, rngL_zero, at0, at1, at2, tupD, rowD, hl]
            refine (forL_all (v := .d (.bl false)) (fun δ => ∃ o3, δ = [some (.d (.tup rows)), some (.d (.str s)), some (.d (.tup ps)), o3] ∧ okO o3) SV.d (pairD rows.length) ps ⟨o3, rfl, k3⟩ ?_).mono ?_
            · rintro y hy δ ⟨o3, rfl, k3⟩
              have hy30 := hp y hy
              have e := callM_pure [] (p_tup 2 y hy30)
              rw [cast_2] at e
              simp -implicitDefEqProofs only [run_bind, run_some, run_none, run_map, a_var, a_c, a_op, a_un, a_chain, tst_b, a_test, a_and, a_or, a_not, a_andV, a_orV, a_notV, a_if, a_nil, a_cons, a_tup, a_lst, a_new, a_fn, a_isi, a_call, asI_i, a_part, a_noPart, a_cut, a_app, a_ext, a_index, a_sub, a_ps0, a_ps1, a_disp, a_lc, a_tt, a_skip, andThen_nx, andThen_rt, andThen_bk, andThen_ct, a_seq, a_expr, a_ret, a_retN, a_brk, a_cnt, a_ifS, a_set, a_aug, a_asg, two_eq, a_par, a_put, a_daug, a_for, a_scoped, frzO_nx, frzO_bk, frzO_ct, frzO_rt, frzS_d, frzS_r, frzE_nil, frzE_none, frzE_some, a_gN, a_gsNil, a_gsCons, a_gTp, asStr_s, a_strI, asRng_i, a_rng1, asRng2_i, a_rng2, chkOf_d, a_seqI, a_cYes, items_tup, items_lst, litems_lst, ditems_tup, ditems_lst, toD_d, dataAll_nil, dataAll_cons, dataAll_mapd, asD_d, v_ii, v_addI, v_addS, v_addT, v_addL, v_neg, v_ltI, v_ltS, v_eq, v_ne, v_inS, v_notInS, v_ixS, v_ixR, v_ixT, v_ixL, v_cutS, v_cutT, v_cutL, v_lenS, v_lenR, v_lenT, v_lenL, v_abs, v_int1, v_listT, v_listL, v_tupleT, v_tupleL, v_isN, v_notN, isN_non, isN_r, isN_bl, isN_int, isN_str, isN_tup, isN_lst, ty_non, ty_bl, ty_int, ty_str, ty_tup, ty_lst, keyOf_i, keyOf_s, gAddI_i, gSubI_i, index_s, idxKind_s, isDat_d, isDat_r, svB_d, svB_r, moB_lst, moB_dk, natAbs10, asL_l, asK_k, itL_l, liL_l, tdL_l, tdL_k, dsL_k, dsL_l, tyL_l, tyL_k, lstAt_r, dkAt_r, items_r, litems_r, toD_r, dkS_r, dkS_tup, dkS_lst, dkS_dk, dkS_str, tyS_r, v_ixRef, v_lenRef, v_cutRef, ditems_r, v_listRef, v_tupleRef, v_eqRef, v_neRef, v_addRR, v_addRL, v_addLR, finO_nx, finO_rt, finO_bk, finO_ct, isTy_int_NoneType, isTy_int_bool, isTy_int_int, isTy_int_str, isTy_int_tuple, isTy_int_list, isTy_int_dict, isTy_bool_NoneType, isTy_bool_bool, isTy_bool_int, isTy_bool_str, isTy_bool_tuple, isTy_bool_list, isTy_bool_dict, isTy_str_NoneType, isTy_str_bool, isTy_str_int, isTy_str_str, isTy_str_tuple, isTy_str_list, isTy_str_dict, isTy_tuple_NoneType, isTy_tuple_bool, isTy_tuple_int, isTy_tuple_str, isTy_tuple_tuple, isTy_tuple_list, isTy_tuple_dict, isTy_list_NoneType, isTy_list_bool, isTy_list_int, isTy_list_str, isTy_list_tuple, isTy_list_list, isTy_list_dict, isTy_dict_NoneType, isTy_dict_bool, isTy_dict_int, isTy_dict_str, isTy_dict_tuple, isTy_dict_list, isTy_dict_dict, eo_non, eo_bl, eo_int, eo_str, eo_tup, eo_lst, ev_nn, ev_ii, ev_bb, ev_ss, ev_tt, ev_ll, ea_nn, ea_nc, ea_cn, ea_cc, ea_mapd, ev_non_bl, ev_non_int, ev_non_str, ev_non_tup, ev_non_lst, ev_bl_non, ev_bl_str, ev_bl_tup, ev_bl_lst, ev_int_non, ev_int_str, ev_int_tup, ev_int_lst, ev_str_non, ev_str_bl, ev_str_int, ev_str_tup, ev_str_lst, ev_tup_non, ev_tup_bl, ev_tup_int, ev_tup_str, ev_tup_lst, ev_lst_non, ev_lst_bl, ev_lst_int, ev_lst_str, ev_lst_tup, wipeE_nil, wipeE_cons, cast_0, cast_1, cast_2, cast_3, cast_4, cast_5, cast_6, cast_7, cast_8, cast_9, cast_10, cast_11, cast_12, keysOf_nil, keysOf_cons, mergeS_nil, mergeS_cons, inR_s, sz_lt, sz_le, leq_nn, leq_nc, leq_cn, leq_cc, key_ss, key_ii, key_is, key_si, findK_nil, findK_cons, mapS_nil, mapS_cons, putS_nil, putS_cons, Option.bind_some, Option.map_some, Option.bind_none, Option.map_none, List.set_cons_zero, List.set_cons_succ, List.set_nil, List.getElem?_cons_zero, List.getElem?_cons_succ, List.length_cons, List.length_nil, List.nil_append, List.cons_append, List.map_cons, List.map_nil, if_true, if_false, Bool.false_eq_true, reduceIte, List.all_cons, List.all_nil, Bool.and_true, Bool.true_and, Bool.and_false, Bool.false_and, Bool.not_true, Bool.not_false, Bool.or_false, Bool.or_true, Bool.false_or, Bool.true_or, and_self, and_true, true_and, Int.toNat_natCast, decide_true, decide_false, List.take_zero, List.take_nil, List.take_succ_cons, List.drop_succ_cons, List.drop_zero, List.drop_nil, List.set_nil, List.replicate_succ, List.replicate_zero, List.foldl_cons, List.foldl_nil, Nat.reduceSub, Nat.reduceAdd, Nat.reduceLT, Nat.reduceLeDiff, Nat.reduceEqDiff, Nat.reduceMul, Int.reduceAdd, Int.reduceSub, Int.reduceMul, Int.reduceLT, Int.reduceLE, Int.reduceNeg, Int.reducePow, Int.reduceToNat, or_true, true_or, or_false, false_or, false_and, and_false, Nat.reducePow, not_true_eq_false, not_false_eq_true, Nat.add_zero, Nat.zero_add, Nat.sub_self, Nat.sub_zero, reduceCtorEq, Option.map_map, Int.reduceEq, Int.reduceNe, Int.reduceMod, Int.reduceDiv, List.append_nil, rngL_zero, at0, at1, at2, e]
              cases y with
              | tup qs =>
                match qs, hy30 with
                | [], _ => simp -implicitDefEqProofs only [run_bind, run_some, run_none, run_map, a_var, a_c, a_op, a_un, a_chain, tst_b, a_test, a_and, a_or, a_not, a_andV, a_orV, a_notV, a_if, a_nil, a_cons, a_tup, a_lst, a_new, a_fn, a_isi, a_call, asI_i, a_part, a_noPart, a_cut, a_app, a_ext, a_index, a_sub, a_ps0, a_ps1, a_disp, a_lc, a_tt, a_skip, andThen_nx, andThen_rt, andThen_bk, andThen_ct, a_seq, a_expr, a_ret, a_retN, a_brk, a_cnt, a_ifS, a_set, a_aug, a_asg, two_eq, a_par, a_put, a_daug, a_for, a_scoped, frzO_nx, frzO_bk, frzO_ct, frzO_rt, frzS_d, frzS_r, frzE_nil, frzE_none, frzE_some, a_gN, a_gsNil, a_gsCons, a_gTp, asStr_s, a_strI, asRng_i, a_rng1, asRng2_i, a_rng2, chkOf_d, a_seqI, a_cYes, items_tup, items_lst, litems_lst, ditems_tup, ditems_lst, toD_d, dataAll_nil, dataAll_cons, dataAll_mapd, asD_d, v_ii, v_addI, v_addS, v_addT, v_addL, v_neg, v_ltI, v_ltS, v_eq, v_ne, v_inS, v_notInS, v_ixS, v_ixR, v_ixT, v_ixL, v_cutS, v_cutT, v_cutL, v_lenS, v_lenR, v_lenT, v_lenL, v_abs, v_int1, v_listT, v_listL, v_tupleT, v_tupleL, v_isN, v_notN, isN_non, isN_r, isN_bl, isN_int, isN_str, isN_tup, isN_lst, ty_non, ty_bl, ty_int, ty_str, ty_tup, ty_lst, keyOf_i, keyOf_s, gAddI_i, gSubI_i, index_s, idxKind_s, isDat_d, isDat_r, svB_d, svB_r, moB_lst, moB_dk, natAbs10, asL_l, asK_k, itL_l, liL_l, tdL_l, tdL_k, dsL_k, dsL_l, tyL_l, tyL_k, lstAt_r, dkAt_r, items_r, litems_r, toD_r, dkS_r, dkS_tup, dkS_lst, dkS_dk, dkS_str, tyS_r, v_ixRef, v_lenRef, v_cutRef, ditems_r, v_listRef, v_tupleRef, v_eqRef, v_neRef, v_addRR, v_addRL, v_addLR, finO_nx, finO_rt, finO_bk, finO_ct, isTy_int_NoneType, isTy_int_bool, isTy_int_int, isTy_int_str, isTy_int_tuple, isTy_int_list, isTy_int_dict, isTy_bool_NoneType, isTy_bool_bool, isTy_bool_int, isTy_bool_str, isTy_bool_tuple, isTy_bool_list, isTy_bool_dict, isTy_str_NoneType, isTy_str_bool, isTy_str_int, isTy_str_str, isTy_str_tuple, isTy_str_list, isTy_str_dict, isTy_tuple_NoneType, isTy_tuple_bool, isTy_tuple_int, isTy_tuple_str, isTy_tuple_tuple, isTy_tuple_list, isTy_tuple_dict, isTy_list_NoneType, isTy_list_bool, isTy_list_int, isTy_list_str, isTy_list_tuple, isTy_list_list, isTy_list_dict, isTy_dict_NoneType, isTy_dict_bool, isTy_dict_int, isTy_dict_str, isTy_dict_tuple, isTy_dict_list, isTy_dict_dict, eo_non, eo_bl, eo_int, eo_str, eo_tup, eo_lst, ev_nn, ev_ii, ev_bb, ev_ss, ev_tt, ev_ll, ea_nn, ea_nc, ea_cn, ea_cc, ea_mapd, ev_non_bl, ev_non_int, ev_non_str, ev_non_tup, ev_non_lst, ev_bl_non, ev_bl_str, ev_bl_tup, ev_bl_lst, ev_int_non, ev_int_str, ev_int_tup, ev_int_lst, ev_str_non, ev_str_bl, ev_str_int, ev_str_tup, ev_str_lst, ev_tup_non, ev_tup_bl, ev_tup_int, ev_tup_str, ev_tup_lst, ev_lst_non, ev_lst_bl, ev_lst_int, ev_lst_str, ev_lst_tup, wipeE_nil, wipeE_cons, cast_0, cast_1, cast_2, cast_3, cast_4, cast_5, cast_6, cast_7, cast_8, cast_9, cast_10, cast_11, cast_12, keysOf_nil, keysOf_cons, mergeS_nil, mergeS_cons, inR_s, sz_lt, sz_le, leq_nn, leq_nc, leq_cn, leq_cc, key_ss, key_ii, key_is, key_si, findK_nil, findK_cons, mapS_nil, mapS_cons, putS_nil, putS_cons, Option.bind_some, Option.map_some, Option.bind_none, Option.map_none, List.set_cons_zero, List.set_cons_succ, List.set_nil, List.getElem?_cons_zero, List.getElem?_cons_succ, List.length_cons, List.length_nil, List.nil_append, List.cons_append, List.map_cons, List.map_nil, if_true, if_false, Bool.false_eq_true, reduceIte, List.all_cons, List.all_nil, Bool.and_true, Bool.true_and, Bool.and_false, Bool.false_and, Bool.not_true, Bool.not_false, Bool.or_false, Bool.or_true, Bool.false_or, Bool.true_or, and_self, and_true, true_and, Int.toNat_natCast, decide_true, decide_false, List.take_zero, List.take_nil, List.take_succ_cons, List.drop_succ_cons, List.drop_zero, List.drop_nil, List.set_nil, List.replicate_succ, List.replicate_zero, List.foldl_cons, List.foldl_nil, Nat.reduceSub, Nat.reduceAdd, Nat.reduceLT, Nat.reduceLeDiff, Nat.reduceEqDiff, Nat.reduceMul, Int.reduceAdd, Int.reduceSub, Int.reduceMul, Int.reduceLT, Int.reduceLE, Int.reduceNeg, Int.reducePow, Int.reduceToNat, or_true, true_or, or_false, false_or, false_and, and_false, Nat.reducePow, not_true_eq_false, not_false_eq_true, Nat.add_zero, Nat.zero_add, Nat.sub_self, Nat.sub_zero, reduceCtorEq, Option.map_map, Int.reduceEq, Int.reduceNe, Int.reduceMod, Int.reduceDiv, List.append_nil, rngL_zero, at0, at1, at2, tupD, pairD]; exact ⟨_, rfl, okO_d _⟩
                | [a], _ => simp -implicitDefEqProofs only [run_bind, run_some, run_none, run_map, a_var, a_c, a_op, a_un, a_chain, tst_b, a_test, a_and, a_or, a_not, a_andV, a_orV, a_notV, a_if, a_nil, a_cons, a_tup, a_lst, a_new, a_fn, a_isi, a_call, asI_i, a_part, a_noPart, a_cut, a_app, a_ext, a_index, a_sub, a_ps0, a_ps1, a_disp, a_lc, a_tt, a_skip, andThen_nx, andThen_rt, andThen_bk, andThen_ct, a_seq, a_expr, a_ret, a_retN, a_brk, a_cnt, a_ifS, a_set, a_aug, a_asg, two_eq, a_par, a_put, a_daug, a_for, a_scoped, frzO_nx, frzO_bk, frzO_ct, frzO_rt, frzS_d, frzS_r, frzE_nil, frzE_none, frzE_some, a_gN, a_gsNil, a_gsCons, a_gTp, asStr_s, a_strI, asRng_i, a_rng1, asRng2_i, a_rng2, chkOf_d, a_seqI, a_cYes, items_tup, items_lst, litems_lst, ditems_tup, ditems_lst, toD_d, dataAll_nil, dataAll_cons, dataAll_mapd, asD_d, v_ii, v_addI, v_addS, v_addT, v_addL, v_neg, v_ltI, v_ltS, v_eq, v_ne, v_inS, v_notInS, v_ixS, v_ixR, v_ixT, v_ixL, v_cutS, v_cutT, v_cutL, v_lenS, v_lenR, v_lenT, v_lenL, v_abs, v_int1, v_listT, v_listL, v_tupleT, v_tupleL, v_isN, v_notN, isN_non, isN_r, isN_bl, isN_int, isN_str, isN_tup, isN_lst, ty_non, ty_bl, ty_int, ty_str, ty_tup, ty_lst, keyOf_i, keyOf_s, gAddI_i, gSubI_i, index_s, idxKind_s, isDat_d, isDat_r, svB_d, svB_r, moB_lst, moB_dk, natAbs10, asL_l, asK_k, itL_l, liL_l, tdL_l, tdL_k, dsL_k, dsL_l, tyL_l, tyL_k, lstAt_r, dkAt_r, items_r, litems_r, toD_r, dkS_r, dkS_tup, dkS_lst, dkS_dk, dkS_str, tyS_r, v_ixRef, v_lenRef, v_cutRef, ditems_r, v_listRef, v_tupleRef, v_eqRef, v_neRef, v_addRR, v_addRL, v_addLR, finO_nx, finO_rt, finO_bk, finO_ct, isTy_int_NoneType, isTy_int_bool, isTy_int_int, isTy_int_str, isTy_int_tuple, isTy_int_list, isTy_int_dict, isTy_bool_NoneType, isTy_bool_bool, isTy_bool_int, isTy_bool_str, isTy_bool_tuple, isTy_bool_list, isTy_bool_dict, isTy_str_NoneType, isTy_str_bool, isTy_str_int, isTy_str_str, isTy_str_tuple, isTy_str_list, isTy_str_dict, isTy_tuple_NoneType, isTy_tuple_bool, isTy_tuple_int, isTy_tuple_str, isTy_tuple_tuple, isTy_tuple_list, isTy_tuple_dict, isTy_list_NoneType, isTy_list_bool, isTy_list_int, isTy_list_str, isTy_list_tuple, isTy_list_list, isTy_list_dict, isTy_dict_NoneType, isTy_dict_bool, isTy_dict_int, isTy_dict_str, isTy_dict_tuple, isTy_dict_list, isTy_dict_dict, eo_non, eo_bl, eo_int, eo_str, eo_tup, eo_lst, ev_nn, ev_ii, ev_bb, ev_ss, ev_tt, ev_ll, ea_nn, ea_nc, ea_cn, ea_cc, ea_mapd, ev_non_bl, ev_non_int, ev_non_str, ev_non_tup, ev_non_lst, ev_bl_non, ev_bl_str, ev_bl_tup, ev_bl_lst, ev_int_non, ev_int_str, ev_int_tup, ev_int_lst, ev_str_non, ev_str_bl, ev_str_int, ev_str_tup, ev_str_lst, ev_tup_non, ev_tup_bl, ev_tup_int, ev_tup_str, ev_tup_lst, ev_lst_non, ev_lst_bl, ev_lst_int, ev_lst_str, ev_lst_tup, wipeE_nil, wipeE_cons, cast_0, cast_1, cast_2, cast_3, cast_4, cast_5, cast_6, cast_7, cast_8, cast_9, cast_10, cast_11, cast_12, keysOf_nil, keysOf_cons, mergeS_nil, mergeS_cons, inR_s, sz_lt, sz_le, leq_nn, leq_nc, leq_cn, leq_cc, key_ss, key_ii, key_is, key_si, findK_nil, findK_cons, mapS_nil, mapS_cons, putS_nil, putS_cons, Option.bind_some, Option.map_some, Option.bind_none, Option.map_none, List.set_cons_zero, List.set_cons_succ, List.set_nil, List.getElem?_cons_zero, List.getElem?_cons_succ, List.length_cons, List.length_nil, List.nil_append, List.cons_append, List.map_cons, List.map_nil, if_true, if_false, Bool.false_eq_true, reduceIte, List.all_cons, List.all_nil, Bool.and_true, Bool.true_and, Bool.and_false, Bool.false_and, Bool.not_true, Bool.not_false, Bool.or_false, Bool.or_true, Bool.false_or, Bool.true_or, and_self, and_true, true_and, Int.toNat_natCast, decide_true, decide_false, List.take_zero, List.take_nil, List.take_succ_cons, List.drop_succ_cons, List.drop_zero, List.drop_nil, List.set_nil, List.replicate_succ, List.replicate_zero, List.foldl_cons, List.foldl_nil, Nat.reduceSub, Nat.reduceAdd, Nat.reduceLT, Nat.reduceLeDiff, Nat.reduceEqDiff, Nat.reduceMul, Int.reduceAdd, Int.reduceSub, Int.reduceMul, Int.reduceLT, Int.reduceLE, Int.reduceNeg, Int.reducePow, Int.reduceToNat, or_true, true_or, or_false, false_or, false_and, and_false, Nat.reducePow, not_true_eq_false, not_false_eq_true, Nat.add_zero, Nat.zero_add, Nat.sub_self, Nat.sub_zero, reduceCtorEq, Option.map_map, Int.reduceEq, Int.reduceNe, Int.reduceMod, Int.reduceDiv, List.append_nil, rngL_zero, at0, at1, at2, tupD, pairD]; exact ⟨_, rfl, okO_d _⟩
                | a :: b :: c :: r, _ =>
                  have e : ¬ (r.length + 1 + 1 + 1 = 2) := by omega
                  simp -implicitDefEqProofs only [run_bind, run_some, run_none, run_map, a_var, a_c, a_op, a_un, a_chain, tst_b, a_test, a_and, a_or, a_not, a_andV, a_orV, a_notV, a_if, a_nil, a_cons, a_tup, a_lst, a_new, a_fn, a_isi, a_call, asI_i, a_part, a_noPart, a_cut, a_app, a_ext, a_index, a_sub, a_ps0, a_ps1, a_disp, a_lc, a_tt, a_skip, andThen_nx, andThen_rt, andThen_bk, andThen_ct, a_seq, a_expr, a_ret, a_retN, a_brk, a_cnt, a_ifS, a_set, a_aug, a_asg, two_eq, a_par, a_put, a_daug, a_for, a_scoped, frzO_nx, frzO_bk, frzO_ct, frzO_rt, frzS_d, frzS_r, frzE_nil, frzE_none, frzE_some, a_gN, a_gsNil, a_gsCons, a_gTp, asStr_s, a_strI, asRng_i, a_rng1, asRng2_i, a_rng2, chkOf_d, a_seqI, a_cYes, items_tup, items_lst, litems_lst, ditems_tup, ditems_lst, toD_d, dataAll_nil, dataAll_cons, dataAll_mapd, asD_d, v_ii, v_addI, v_addS, v_addT, v_addL, v_neg, v_ltI, v_ltS, v_eq, v_ne, v_inS, v_notInS, v_ixS, v_ixR, v_ixT, v_ixL, v_cutS, v_cutT, v_cutL, v_lenS, v_lenR, v_lenT, v_lenL, v_abs, v_int1, v_listT, v_listL, v_tupleT, v_tupleL, v_isN, v_notN, isN_non, isN_r, isN_bl, isN_int, isN_str, isN_tup, isN_lst, ty_non, ty_bl, ty_int, ty_str, ty_tup, ty_lst, keyOf_i, keyOf_s, gAddI_i, gSubI_i, index_s, idxKind_s, isDat_d, isDat_r, svB_d, svB_r, moB_lst, moB_dk, natAbs10, asL_l, asK_k, itL_l, liL_l, tdL_l, tdL_k, dsL_k, dsL_l, tyL_l, tyL_k, lstAt_r, dkAt_r, items_r, litems_r, toD_r, dkS_r, dkS_tup, dkS_lst, dkS_dk, dkS_str, tyS_r, v_ixRef, v_lenRef, v_cutRef, ditems_r, v_listRef, v_tupleRef, v_eqRef, v_neRef, v_addRR, v_addRL, v_addLR, finO_nx, finO_rt, finO_bk, finO_ct, isTy_int_NoneType, isTy_int_bool, isTy_int_int, isTy_int_str, isTy_int_tuple, isTy_int_list, isTy_int_dict, isTy_bool_NoneType, isTy_bool_bool, isTy_bool_int, isTy_bool_str, isTy_bool_tuple, isTy_bool_list, isTy_bool_dict, isTy_str_NoneType, isTy_str_bool, isTy_str_int, isTy_str_str, isTy_str_tuple, isTy_str_list, isTy_str_dict, isTy_tuple_NoneType, isTy_tuple_bool, isTy_tuple_int, isTy_tuple_str, isTy_tuple_tuple, isTy_tuple_list, isTy_tuple_dict, isTy_list_NoneType, isTy_list_bool, isTy_list_int, isTy_list_str, isTy_list_tuple, isTy_list_list, isTy_list_dict, isTy_dict_NoneType, isTy_dict_bool, isTy_dict_int, isTy_dict_str, isTy_dict_tuple, isTy_dict_list, isTy_dict_dict, eo_non, eo_bl, eo_int, eo_str, eo_tup, eo_lst, ev_nn, ev_ii, ev_bb, ev_ss, ev_tt, ev_ll, ea_nn, ea_nc, ea_cn, ea_cc, ea_mapd, ev_non_bl, ev_non_int, ev_non_str, ev_non_tup, ev_non_lst, ev_bl_non, ev_bl_str, ev_bl_tup, ev_bl_lst, ev_int_non, ev_int_str, ev_int_tup, ev_int_lst, ev_str_non, ev_str_bl, ev_str_int, ev_str_tup, ev_str_lst, ev_tup_non, ev_tup_bl, ev_tup_int, ev_tup_str, ev_tup_lst, ev_lst_non, ev_lst_bl, ev_lst_int, ev_lst_str, ev_lst_tup, wipeE_nil, wipeE_cons, cast_0, cast_1, cast_2, cast_3, cast_4, cast_5, cast_6, cast_7, cast_8, cast_9, cast_10, cast_11, cast_12, keysOf_nil, keysOf_cons, mergeS_nil, mergeS_cons, inR_s, sz_lt, sz_le, leq_nn, leq_nc, leq_cn, leq_cc, key_ss, key_ii, key_is, key_si, findK_nil, findK_cons, mapS_nil, mapS_cons, putS_nil, putS_cons, Option.bind_some, Option.map_some, Option.bind_none, Option.map_none, List.set_cons_zero, List.set_cons_succ, List.set_nil, List.getElem?_cons_zero, List.getElem?_cons_succ, List.length_cons, List.length_nil, List.nil_append, List.cons_append, List.map_cons, List.map_nil, if_true, if_false, Bool.false_eq_true, reduceIte, List.all_cons, List.all_nil, Bool.and_true, Bool.true_and, Bool.and_false, Bool.false_and, Bool.not_true, Bool.not_false, Bool.or_false, Bool.or_true, Bool.false_or, Bool.true_or, and_self, and_true, true_and, Int.toNat_natCast, decide_true, decide_false, List.take_zero, List.take_nil, List.take_succ_cons, List.drop_succ_cons, List.drop_zero, List.drop_nil, List.set_nil, List.replicate_succ, List.replicate_zero, List.foldl_cons, List.foldl_nil, Nat.reduceSub, Nat.reduceAdd, Nat.reduceLT, Nat.reduceLeDiff, Nat.reduceEqDiff, Nat.reduceMul, Int.reduceAdd, Int.reduceSub, Int.reduceMul, Int.reduceLT, Int.reduceLE, Int.reduceNeg, Int.reducePow, Int.reduceToNat, or_true, true_or, or_false, false_or, false_and, and_false, Nat.reducePow, not_true_eq_false, not_false_eq_true, Nat.add_zero, Nat.zero_add, Nat.sub_self, Nat.sub_zero, reduceCtorEq, Option.map_map, Int.reduceEq, Int.reduceNe, Int.reduceMod, Int.reduceDiv, List.append_nil, rngL_zero, at0, at1, at2, tupD, pairD, e]; exact ⟨_, rfl, okO_d _⟩
                | [a, b], hy30 =>
                  have hq := ok29 hy30
                  have e1 := callM_pure [] (p_sign a (hq a (by simp)))
                  have e2 := callM_pure [] (p_below rows.length b (hq b (by simp)))
                  simp -implicitDefEqProofs only [run_bind, run_some, run_none, run_map, a_var, a_c, a_op, a_un, a_chain, tst_b, a_test, a_and, a_or, a_not, a_andV, a_orV, a_notV, a_if, a_nil, a_cons, a_tup, a_lst, a_new, a_fn, a_isi, a_call, asI_i, a_part, a_noPart, a_cut, a_app, a_ext, a_index, a_sub, a_ps0, a_ps1, a_disp, a_lc, a_tt, a_skip, andThen_nx, andThen_rt, andThen_bk, andThen_ct, a_seq, a_expr, a_ret, a_retN, a_brk, a_cnt, a_ifS, a_set, a_aug, a_asg, two_eq, a_par, a_put, a_daug, a_for, a_scoped, frzO_nx, frzO_bk, frzO_ct, frzO_rt, frzS_d, frzS_r, frzE_nil, frzE_none, frzE_some, a_gN, a_gsNil, a_gsCons, a_gTp, asStr_s, a_strI, asRng_i, a_rng1, asRng2_i, a_rng2, chkOf_d, a_seqI, a_cYes, items_tup, items_lst, litems_lst, ditems_tup, ditems_lst, toD_d, dataAll_nil, dataAll_cons, dataAll_mapd, asD_d, v_ii, v_addI, v_addS, v_addT, v_addL, v_neg, v_ltI, v_ltS, v_eq, v_ne, v_inS, v_notInS, v_ixS, v_ixR, v_ixT, v_ixL, v_cutS, v_cutT, v_cutL, v_lenS, v_lenR, v_lenT, v_lenL, v_abs, v_int1, v_listT, v_listL, v_tupleT, v_tupleL, v_isN, v_notN, isN_non, isN_r, isN_bl, isN_int, isN_str, isN_tup, isN_lst, ty_non, ty_bl, ty_int, ty_str, ty_tup, ty_lst, keyOf_i, keyOf_s, gAddI_i, gSubI_i, index_s, idxKind_s, isDat_d, isDat_r, svB_d, svB_r, moB_lst, moB_dk, natAbs10, asL_l, asK_k, itL_l, liL_l, tdL_l, tdL_k, dsL_k, dsL_l, tyL_l, tyL_k, lstAt_r, dkAt_r, items_r, litems_r, toD_r, dkS_r, dkS_tup, dkS_lst, dkS_dk, dkS_str, tyS_r, v_ixRef, v_lenRef, v_cutRef, ditems_r, v_listRef, v_tupleRef, v_eqRef, v_neRef, v_addRR, v_addRL, v_addLR, finO_nx, finO_rt, finO_bk, finO_ct, isTy_int_NoneType, isTy_int_bool, isTy_int_int, isTy_int_str, isTy_int_tuple, isTy_int_list, isTy_int_dict, isTy_bool_NoneType, isTy_bool_bool, isTy_bool_int, isTy_bool_str, isTy_bool_tuple, isTy_bool_list, isTy_bool_dict, isTy_str_NoneType, isTy_str_bool, isTy_str_int, isTy_str_str, isTy_str_tuple, isTy_str_list, isTy_str_dict, isTy_tuple_NoneType, isTy_tuple_bool, isTy_tuple_int, isTy_tuple_str, isTy_tuple_tuple, isTy_tuple_list, isTy_tuple_dict, isTy_list_NoneType, isTy_list_bool, isTy_list_int, isTy_list_str, isTy_list_tuple, isTy_list_list, isTy_list_dict, isTy_dict_NoneType, isTy_dict_bool, isTy_dict_int, isTy_dict_str, isTy_dict_tuple, isTy_dict_list, isTy_dict_dict, eo_non, eo_bl, eo_int, eo_str, eo_tup, eo_lst, ev_nn, ev_ii, ev_bb, ev_ss, ev_tt, ev_ll, ea_nn, ea_nc, ea_cn, ea_cc, ea_mapd, ev_non_bl, ev_non_int, ev_non_str, ev_non_tup, ev_non_lst, ev_bl_non, ev_bl_str, ev_bl_tup, ev_bl_lst, ev_int_non, ev_int_str, ev_int_tup, ev_int_lst, ev_str_non, ev_str_bl, ev_str_int, ev_str_tup, ev_str_lst, ev_tup_non, ev_tup_bl, ev_tup_int, ev_tup_str, ev_tup_lst, ev_lst_non, ev_lst_bl, ev_lst_int, ev_lst_str, ev_lst_tup, wipeE_nil, wipeE_cons, cast_0, cast_1, cast_2, cast_3, cast_4, cast_5, cast_6, cast_7, cast_8, cast_9, cast_10, cast_11, cast_12, keysOf_nil, keysOf_cons, mergeS_nil, mergeS_cons, inR_s, sz_lt, sz_le, leq_nn, leq_nc, leq_cn, leq_cc, key_ss, key_ii, key_is, key_si, findK_nil, findK_cons, mapS_nil, mapS_cons, putS_nil, putS_cons, Option.bind_some, Option.map_some, Option.bind_none, Option.map_none, List.set_cons_zero, List.set_cons_succ, List.set_nil, List.getElem?_cons_zero, List.getElem?_cons_succ, List.length_cons, List.length_nil, List.nil_append, List.cons_append, List.map_cons, List.map_nil, if_true, if_false, Bool.false_eq_true, reduceIte, List.all_cons, List.all_nil, Bool.and_true, Bool.true_and, Bool.and_false, Bool.false_and, Bool.not_true, Bool.not_false, Bool.or_false, Bool.or_true, Bool.false_or, Bool.true_or, and_self, and_true, true_and, Int.toNat_natCast, decide_true, decide_false, List.take_zero, List.take_nil, List.take_succ_cons, List.drop_succ_cons, List.drop_zero, List.drop_nil, List.set_nil, List.replicate_succ, List.replicate_zero, List.foldl_cons, List.foldl_nil, Nat.reduceSub, Nat.reduceAdd, Nat.reduceLT, Nat.reduceLeDiff, Nat.reduceEqDiff, Nat.reduceMul, Int.reduceAdd, Int.reduceSub, Int.reduceMul, Int.reduceLT, Int.reduceLE, Int.reduceNeg, Int.reducePow, Int.reduceToNat, or_true, true_or, or_false, false_or, false_and, and_false, Nat.reducePow, not_true_eq_false, not_false_eq_true, Nat.add_zero, Nat.zero_add, Nat.sub_self, Nat.sub_zero, reduceCtorEq, Option.map_map, Int.reduceEq, Int.reduceNe, Int.reduceMod, Int.reduceDiv, List.append_nil, rngL_zero, at0, at1, at2, tupD, pairD, e1, e2]
                  by_cases g1 : letterD a = true
                  · by_cases g2 : belowD rows.length b = true
                    · simp -implicitDefEqProofs only [run_bind, run_some, run_none, run_map, a_var, a_c, a_op, a_un, a_chain, tst_b, a_test, a_and, a_or, a_not, a_andV, a_orV, a_notV, a_if, a_nil, a_cons, a_tup, a_lst, a_new, a_fn, a_isi, a_call, asI_i, a_part, a_noPart, a_cut, a_app, a_ext, a_index, a_sub, a_ps0, a_ps1, a_disp, a_lc, a_tt, a_skip, andThen_nx, andThen_rt, andThen_bk, andThen_ct, a_seq, a_expr, a_ret, a_retN, a_brk, a_cnt, a_ifS, a_set, a_aug, a_asg, two_eq, a_par, a_put, a_daug, a_for, a_scoped, frzO_nx, frzO_bk, frzO_ct, frzO_rt, frzS_d, frzS_r, frzE_nil, frzE_none, frzE_some, a_gN, a_gsNil, a_gsCons, a_gTp, asStr_s, a_strI, asRng_i, a_rng1, asRng2_i, a_rng2, chkOf_d, a_seqI, a_cYes, items_tup, items_lst, litems_lst, ditems_tup, ditems_lst, toD_d, dataAll_nil, dataAll_cons, dataAll_mapd, asD_d, v_ii, v_addI, v_addS, v_addT, v_addL, v_neg, v_ltI, v_ltS, v_eq, v_ne, v_inS, v_notInS, v_ixS, v_ixR, v_ixT, v_ixL, v_cutS, v_cutT, v_cutL, v_lenS, v_lenR, v_lenT, v_lenL, v_abs, v_int1, v_listT, v_listL, v_tupleT, v_tupleL, v_isN, v_notN, isN_non, isN_r, isN_bl, isN_int, isN_str, isN_tup, isN_lst, ty_non, ty_bl, ty_int, ty_str, ty_tup, ty_lst, keyOf_i, keyOf_s, gAddI_i, gSubI_i, index_s, idxKind_s, isDat_d, isDat_r, svB_d, svB_r, moB_lst, moB_dk, natAbs10, asL_l, asK_k, itL_l, liL_l, tdL_l, tdL_k, dsL_k, dsL_l, tyL_l, tyL_k, lstAt_r, dkAt_r, items_r, litems_r, toD_r, dkS_r, dkS_tup, dkS_lst, dkS_dk, dkS_str, tyS_r, v_ixRef, v_lenRef, v_cutRef, ditems_r, v_listRef, v_tupleRef, v_eqRef, v_neRef, v_addRR, v_addRL, v_addLR, finO_nx, finO_rt, finO_bk, finO_ct, isTy_int_NoneType, isTy_int_bool, isTy_int_int, isTy_int_str, isTy_int_tuple, isTy_int_list, isTy_int_dict, isTy_bool_NoneType, isTy_bool_bool, isTy_bool_int, isTy_bool_str, isTy_bool_tuple, isTy_bool_list, isTy_bool_dict, isTy_str_NoneType, isTy_str_bool, isTy_str_int, isTy_str_str, isTy_str_tuple, isTy_str_list, isTy_str_dict, isTy_tuple_NoneType, isTy_tuple_bool, isTy_tuple_int, isTy_tuple_str, isTy_tuple_tuple, isTy_tuple_list, isTy_tuple_dict, isTy_list_NoneType, isTy_list_bool, isTy_list_int, isTy_list_str, isTy_list_tuple, isTy_list_list, isTy_list_dict, isTy_dict_NoneType, isTy_dict_bool, isTy_dict_int, isTy_dict_str, isTy_dict_tuple, isTy_dict_list, isTy_dict_dict, eo_non, eo_bl, eo_int, eo_str, eo_tup, eo_lst, ev_nn, ev_ii, ev_bb, ev_ss, ev_tt, ev_ll, ea_nn, ea_nc, ea_cn, ea_cc, ea_mapd, ev_non_bl, ev_non_int, ev_non_str, ev_non_tup, ev_non_lst, ev_bl_non, ev_bl_str, ev_bl_tup, ev_bl_lst, ev_int_non, ev_int_str, ev_int_tup, ev_int_lst, ev_str_non, ev_str_bl, ev_str_int, ev_str_tup, ev_str_lst, ev_tup_non, ev_tup_bl, ev_tup_int, ev_tup_str, ev_tup_lst, ev_lst_non, ev_lst_bl, ev_lst_int, ev_lst_str, ev_lst_tup, wipeE_nil, wipeE_cons, cast_0, cast_1, cast_2, cast_3, cast_4, cast_5, cast_6, cast_7, cast_8, cast_9, cast_10, cast_11, cast_12, keysOf_nil, keysOf_cons, mergeS_nil, mergeS_cons, inR_s, sz_lt, sz_le, leq_nn, leq_nc, leq_cn, leq_cc, key_ss, key_ii, key_is, key_si, findK_nil, findK_cons, mapS_nil, mapS_cons, putS_nil, putS_cons, Option.bind_some, Option.map_some, Option.bind_none, Option.map_none, List.set_cons_zero, List.set_cons_succ, List.set_nil, List.getElem?_cons_zero, List.getElem?_cons_succ, List.length_cons, List.length_nil, List.nil_append, List.cons_append, List.map_cons, List.map_nil, if_true, if_false, Bool.false_eq_true, reduceIte, List.all_cons, List.all_nil, Bool.and_true, Bool.true_and, Bool.and_false, Bool.false_and, Bool.not_true, Bool.not_false, Bool.or_false, Bool.or_true, Bool.false_or, Bool.true_or, and_self, and_true, true_and, Int.toNat_natCast, decide_true, decide_false, List.take_zero, List.take_nil, List.take_succ_cons, List.drop_succ_cons, List.drop_zero, List.drop_nil, List.set_nil, List.replicate_succ, List.replicate_zero, List.foldl_cons, List.foldl_nil, Nat.reduceSub, Nat.reduceAdd, Nat.reduceLT, Nat.reduceLeDiff, Nat.reduceEqDiff, Nat.reduceMul, Int.reduceAdd, Int.reduceSub, Int.reduceMul, Int.reduceLT, Int.reduceLE, Int.reduceNeg, Int.reducePow, Int.reduceToNat, or_true, true_or, or_false, false_or, false_and, and_false, Nat.reducePow, not_true_eq_false, not_false_eq_true, Nat.add_zero, Nat.zero_add, Nat.sub_self, Nat.sub_zero, reduceCtorEq, Option.map_map, Int.reduceEq, Int.reduceNe, Int.reduceMod, Int.reduceDiv, List.append_nil, rngL_zero, at0, at1, at2, g1, g2]; exact ⟨_, rfl, okO_d _⟩
                    · simp -implicitDefEqProofs only [run_bind, run_some, run_none, run_map, a_var, a_c, a_op, a_un, a_chain, tst_b, a_test, a_and, a_or, a_not, a_andV, a_orV, a_notV, a_if, a_nil, a_cons, a_tup, a_lst, a_new, a_fn, a_isi, a_call, asI_i, a_part, a_noPart, a_cut, a_app, a_ext, a_index, a_sub, a_ps0, a_ps1, a_disp, a_lc, a_tt, a_skip, andThen_nx, andThen_rt, andThen_bk, andThen_ct, a_seq, a_expr, a_ret, a_retN, a_brk, a_cnt, a_ifS, a_set, a_aug, a_asg, two_eq, a_par, a_put, a_daug, a_for, a_scoped, frzO_nx, frzO_bk, frzO_ct, frzO_rt, frzS_d, frzS_r, frzE_nil, frzE_none, frzE_some, a_gN, a_gsNil, a_gsCons, a_gTp, asStr_s, a_strI, asRng_i, a_rng1, asRng2_i, a_rng2, chkOf_d, a_seqI, a_cYes, items_tup, items_lst, litems_lst, ditems_tup, ditems_lst, toD_d, dataAll_nil, dataAll_cons, dataAll_mapd, asD_d, v_ii, v_addI, v_addS, v_addT, v_addL, v_neg, v_ltI, v_ltS, v_eq, v_ne, v_inS, v_notInS, v_ixS, v_ixR, v_ixT, v_ixL, v_cutS, v_cutT, v_cutL, v_lenS, v_lenR, v_lenT, v_lenL, v_abs, v_int1, v_listT, v_listL, v_tupleT, v_tupleL, v_isN, v_notN, isN_non, isN_r, isN_bl, isN_int, isN_str, isN_tup, isN_lst, ty_non, ty_bl, ty_int, ty_str, ty_tup, ty_lst, keyOf_i, keyOf_s, gAddI_i, gSubI_i, index_s, idxKind_s, isDat_d, isDat_r, svB_d, svB_r, moB_lst, moB_dk, natAbs10, asL_l, asK_k, itL_l, liL_l, tdL_l, tdL_k, dsL_k, dsL_l, tyL_l, tyL_k, lstAt_r, dkAt_r, items_r, litems_r, toD_r, dkS_r, dkS_tup, dkS_lst, dkS_dk, dkS_str, tyS_r, v_ixRef, v_lenRef, v_cutRef, ditems_r, v_listRef, v_tupleRef, v_eqRef, v_neRef, v_addRR, v_addRL, v_addLR, finO_nx, finO_rt, finO_bk, finO_ct, isTy_int_NoneType, isTy_int_bool, isTy_int_int, isTy_int_str, isTy_int_tuple, isTy_int_list, isTy_int_dict, isTy_bool_NoneType, isTy_bool_bool, isTy_bool_int, isTy_bool_str, isTy_bool_tuple, isTy_bool_list, isTy_bool_dict, isTy_str_NoneType, isTy_str_bool, isTy_str_int, isTy_str_str, isTy_str_tuple, isTy_str_list, isTy_str_dict, isTy_tuple_NoneType, isTy_tuple_bool, isTy_tuple_int, isTy_tuple_str, isTy_tuple_tuple, isTy_tuple_list, isTy_tuple_dict, isTy_list_NoneType, isTy_list_bool, isTy_list_int, isTy_list_str, isTy_list_tuple, isTy_list_list, isTy_list_dict, isTy_dict_NoneType, isTy_dict_bool, isTy_dict_int, isTy_dict_str, isTy_dict_tuple, isTy_dict_list, isTy_dict_dict, eo_non, eo_bl, eo_int, eo_str, eo_tup, eo_lst, ev_nn, ev_ii, ev_bb, ev_ss, ev_tt, ev_ll, ea_nn, ea_nc, ea_cn, ea_cc, ea_mapd, ev_non_bl, ev_non_int, ev_non_str, ev_non_tup, ev_non_lst, ev_bl_non, ev_bl_str, ev_bl_tup, ev_bl_lst, ev_int_non, ev_int_str, ev_int_tup, ev_int_lst, ev_str_non, ev_str_bl, ev_str_int, ev_str_tup, ev_str_lst, ev_tup_non, ev_tup_bl, ev_tup_int, ev_tup_str, ev_tup_lst, ev_lst_non, ev_lst_bl, ev_lst_int, ev_lst_str, ev_lst_tup, wipeE_nil, wipeE_cons, cast_0, cast_1, cast_2, cast_3, cast_4, cast_5, cast_6, cast_7, cast_8, cast_9, cast_10, cast_11, cast_12, keysOf_nil, keysOf_cons, mergeS_nil, mergeS_cons, inR_s, sz_lt, sz_le, leq_nn, leq_nc, leq_cn, leq_cc, key_ss, key_ii, key_is, key_si, findK_nil, findK_cons, mapS_nil, mapS_cons, putS_nil, putS_cons, Option.bind_some, Option.map_some, Option.bind_none, Option.map_none, List.set_cons_zero, List.set_cons_succ, List.set_nil, List.getElem?_cons_zero, List.getElem?_cons_succ, List.length_cons, List.length_nil, List.nil_append, List.cons_append, List.map_cons, List.map_nil, if_true, if_false, Bool.false_eq_true, reduceIte, List.all_cons, List.all_nil, Bool.and_true, Bool.true_and, Bool.and_false, Bool.false_and, Bool.not_true, Bool.not_false, Bool.or_false, Bool.or_true, Bool.false_or, Bool.true_or, and_self, and_true, true_and, Int.toNat_natCast, decide_true, decide_false, List.take_zero, List.take_nil, List.take_succ_cons, List.drop_succ_cons, List.drop_zero, List.drop_nil, List.set_nil, List.replicate_succ, List.replicate_zero, List.foldl_cons, List.foldl_nil, Nat.reduceSub, Nat.reduceAdd, Nat.reduceLT, Nat.reduceLeDiff, Nat.reduceEqDiff, Nat.reduceMul, Int.reduceAdd, Int.reduceSub, Int.reduceMul, Int.reduceLT, Int.reduceLE, Int.reduceNeg, Int.reducePow, Int.reduceToNat, or_true, true_or, or_false, false_or, false_and, and_false, Nat.reducePow, not_true_eq_false, not_false_eq_true, Nat.add_zero, Nat.zero_add, Nat.sub_self, Nat.sub_zero, reduceCtorEq, Option.map_map, Int.reduceEq, Int.reduceNe, Int.reduceMod, Int.reduceDiv, List.append_nil, rngL_zero, at0, at1, at2, g1, eq_false_of_ne_true g2]; exact ⟨_, rfl, okO_d _⟩
                  · simp -implicitDefEqProofs only [run_bind, run_some, run_none, run_map, a_var, a_c, a_op, a_un, a_chain, tst_b, a_test, a_and, a_or, a_not, a_andV, a_orV, a_notV, a_if, a_nil, a_cons, a_tup, a_lst, a_new, a_fn, a_isi, a_call, asI_i, a_part, a_noPart, a_cut, a_app, a_ext, a_index, a_sub, a_ps0, a_ps1, a_disp, a_lc, a_tt, a_skip, andThen_nx, andThen_rt, andThen_bk, andThen_ct, a_seq, a_expr, a_ret, a_retN, a_brk, a_cnt, a_ifS, a_set, a_aug, a_asg, two_eq, a_par, a_put, a_daug, a_for, a_scoped, frzO_nx, frzO_bk, frzO_ct, frzO_rt, frzS_d, frzS_r, frzE_nil, frzE_none, frzE_some, a_gN, a_gsNil, a_gsCons, a_gTp, asStr_s, a_strI, asRng_i, a_rng1, asRng2_i, a_rng2, chkOf_d, a_seqI, a_cYes, items_tup, items_lst, litems_lst, ditems_tup, ditems_lst, toD_d, dataAll_nil, dataAll_cons, dataAll_mapd, asD_d, v_ii, v_addI, v_addS, v_addT, v_addL, v_neg, v_ltI, v_ltS, v_eq, v_ne, v_inS, v_notInS, v_ixS, v_ixR, v_ixT, v_ixL, v_cutS, v_cutT, v_cutL, v_lenS, v_lenR, v_lenT, v_lenL, v_abs, v_int1, v_listT, v_listL, v_tupleT, v_tupleL, v_isN, v_notN, isN_non, isN_r, isN_bl, isN_int, isN_str, isN_tup, isN_lst, ty_non, ty_bl, ty_int, ty_str, ty_tup, ty_lst, keyOf_i, keyOf_s, gAddI_i, gSubI_i, index_s, idxKind_s, isDat_d, isDat_r, svB_d, svB_r, moB_lst, moB_dk, natAbs10, asL_l, asK_k, itL_l, liL_l, tdL_l, tdL_k, dsL_k, dsL_l, tyL_l, tyL_k, lstAt_r, dkAt_r, items_r, litems_r, toD_r, dkS_r, dkS_tup, dkS_lst, dkS_dk, dkS_str, tyS_r, v_ixRef, v_lenRef, v_cutRef, ditems_r, v_listRef, v_tupleRef, v_eqRef, v_neRef, v_addRR, v_addRL, v_addLR, finO_nx, finO_rt, finO_bk, finO_ct, isTy_int_NoneType, isTy_int_bool, isTy_int_int, isTy_int_str, isTy_int_tuple, isTy_int_list, isTy_int_dict, isTy_bool_NoneType, isTy_bool_bool, isTy_bool_int, isTy_bool_str, isTy_bool_tuple, isTy_bool_list, isTy_bool_dict, isTy_str_NoneType, isTy_str_bool, isTy_str_int, isTy_str_str, isTy_str_tuple, isTy_str_list, isTy_str_dict, isTy_tuple_NoneType, isTy_tuple_bool, isTy_tuple_int, isTy_tuple_str, isTy_tuple_tuple, isTy_tuple_list, isTy_tuple_dict, isTy_list_NoneType, isTy_list_bool, isTy_list_int, isTy_list_str, isTy_list_tuple, isTy_list_list, isTy_list_dict, isTy_dict_NoneType, isTy_dict_bool, isTy_dict_int, isTy_dict_str, isTy_dict_tuple, isTy_dict_list, isTy_dict_dict, eo_non, eo_bl, eo_int, eo_str, eo_tup, eo_lst, ev_nn, ev_ii, ev_bb, ev_ss, ev_tt, ev_ll, ea_nn, ea_nc, ea_cn, ea_cc, ea_mapd, ev_non_bl, ev_non_int, ev_non_str, ev_non_tup, ev_non_lst, ev_bl_non, ev_bl_str, ev_bl_tup, ev_bl_lst, ev_int_non, ev_int_str, ev_int_tup, ev_int_lst, ev_str_non, ev_str_bl, ev_str_int, ev_str_tup, ev_str_lst, ev_tup_non, ev_tup_bl, ev_tup_int, ev_tup_str, ev_tup_lst, ev_lst_non, ev_lst_bl, ev_lst_int, ev_lst_str, ev_lst_tup, wipeE_nil, wipeE_cons, cast_0, cast_1, cast_2, cast_3, cast_4, cast_5, cast_6, cast_7, cast_8, cast_9, cast_10, cast_11, cast_12, keysOf_nil, keysOf_cons, mergeS_nil, mergeS_cons, inR_s, sz_lt, sz_le, leq_nn, leq_nc, leq_cn, leq_cc, key_ss, key_ii, key_is, key_si, findK_nil, findK_cons, mapS_nil, mapS_cons, putS_nil, putS_cons, Option.bind_some, Option.map_some, Option.bind_none, Option.map_none, List.set_cons_zero, List.set_cons_succ, List.set_nil, List.getElem?_cons_zero, List.getElem?_cons_succ, List.length_cons, List.length_nil, List.nil_append, List.cons_append, List.map_cons, List.map_nil, if_true, if_false, Bool.false_eq_true, reduceIte, List.all_cons, List.all_nil, Bool.and_true, Bool.true_and, Bool.and_false, Bool.false_and, Bool.not_true, Bool.not_false, Bool.or_false, Bool.or_true, Bool.false_or, Bool.true_or, and_self, and_true, true_and, Int.toNat_natCast, decide_true, decide_false, List.take_zero, List.take_nil, List.take_succ_cons, List.drop_succ_cons, List.drop_zero, List.drop_nil, List.set_nil, List.replicate_succ, List.replicate_zero, List.foldl_cons, List.foldl_nil, Nat.reduceSub, Nat.reduceAdd, Nat.reduceLT, Nat.reduceLeDiff, Nat.reduceEqDiff, Nat.reduceMul, Int.reduceAdd, Int.reduceSub, Int.reduceMul, Int.reduceLT, Int.reduceLE, Int.reduceNeg, Int.reducePow, Int.reduceToNat, or_true, true_or, or_false, false_or, false_and, and_false, Nat.reducePow, not_true_eq_false, not_false_eq_true, Nat.add_zero, Nat.zero_add, Nat.sub_self, Nat.sub_zero, reduceCtorEq, Option.map_map, Int.reduceEq, Int.reduceNe, Int.reduceMod, Int.reduceDiv, List.append_nil, rngL_zero, at0, at1, at2, eq_false_of_ne_true g1]; exact ⟨_, rfl, okO_d _⟩
              | _ => simp -implicitDefEqProofs only [run_bind, run_some, run_none, run_map, a_var, a_c, a_op, a_un, a_chain, tst_b, a_test, a_and, a_or, a_not, a_andV, a_orV, a_notV, a_if, a_nil, a_cons, a_tup, a_lst, a_new, a_fn, a_isi, a_call, asI_i, a_part, a_noPart, a_cut, a_app, a_ext, a_index, a_sub, a_ps0, a_ps1, a_disp, a_lc, a_tt, a_skip, andThen_nx, andThen_rt, andThen_bk, andThen_ct, a_seq, a_expr, a_ret, a_retN, a_brk, a_cnt, a_ifS, a_set, a_aug, a_asg, two_eq, a_par, a_put, a_daug, a_for, a_scoped, frzO_nx, frzO_bk, frzO_ct, frzO_rt, frzS_d, frzS_r, frzE_nil, frzE_none, frzE_some, a_gN, a_gsNil, a_gsCons, a_gTp, asStr_s, a_strI, asRng_i, a_rng1, asRng2_i, a_rng2, chkOf_d, a_seqI, a_cYes, items_tup, items_lst, litems_lst, ditems_tup, ditems_lst, toD_d, dataAll_nil, dataAll_cons, dataAll_mapd, asD_d, v_ii, v_addI, v_addS, v_addT, v_addL, v_neg, v_ltI, v_ltS, v_eq, v_ne, v_inS, v_notInS, v_ixS, v_ixR, v_ixT, v_ixL, v_cutS, v_cutT, v_cutL, v_lenS, v_lenR, v_lenT, v_lenL, v_abs, v_int1, v_listT, v_listL, v_tupleT, v_tupleL, v_isN, v_notN, isN_non, isN_r, isN_bl, isN_int, isN_str, isN_tup, isN_lst, ty_non, ty_bl, ty_int, ty_str, ty_tup, ty_lst, keyOf_i, keyOf_s, gAddI_i, gSubI_i, index_s, idxKind_s, isDat_d, isDat_r, svB_d, svB_r, moB_lst, moB_dk, natAbs10, asL_l, asK_k, itL_l, liL_l, tdL_l, tdL_k, dsL_k, dsL_l, tyL_l, tyL_k, lstAt_r, dkAt_r, items_r, litems_r, toD_r, dkS_r, dkS_tup, dkS_lst, dkS_dk, dkS_str, tyS_r, v_ixRef, v_lenRef, v_cutRef, ditems_r, v_listRef, v_tupleRef, v_eqRef, v_neRef, v_addRR, v_addRL, v_addLR, finO_nx, finO_rt, finO_bk, finO_ct, isTy_int_NoneType, isTy_int_bool, isTy_int_int, isTy_int_str, isTy_int_tuple, isTy_int_list, isTy_int_dict, isTy_bool_NoneType, isTy_bool_bool, isTy_bool_int, isTy_bool_str, isTy_bool_tuple, isTy_bool_list, isTy_bool_dict, isTy_str_NoneType, isTy_str_bool, isTy_str_int, isTy_str_str, isTy_str_tuple, isTy_str_list, isTy_str_dict, isTy_tuple_NoneType, isTy_tuple_bool, isTy_tuple_int, isTy_tuple_str, isTy_tuple_tuple, isTy_tuple_list, isTy_tuple_dict, isTy_list_NoneType, isTy_list_bool, isTy_list_int, isTy_list_str, isTy_list_tuple, isTy_list_list, isTy_list_dict, isTy_dict_NoneType, isTy_dict_bool, isTy_dict_int, isTy_dict_str, isTy_dict_tuple, isTy_dict_list, isTy_dict_dict, eo_non, eo_bl, eo_int, eo_str, eo_tup, eo_lst, ev_nn, ev_ii, ev_bb, ev_ss, ev_tt, ev_ll, ea_nn, ea_nc, ea_cn, ea_cc, ea_mapd, ev_non_bl, ev_non_int, ev_non_str, ev_non_tup, ev_non_lst, ev_bl_non, ev_bl_str, ev_bl_tup, ev_bl_lst, ev_int_non, ev_int_str, ev_int_tup, ev_int_lst, ev_str_non, ev_str_bl, ev_str_int, ev_str_tup, ev_str_lst, ev_tup_non, ev_tup_bl, ev_tup_int, ev_tup_str, ev_tup_lst, ev_lst_non, ev_lst_bl, ev_lst_int, ev_lst_str, ev_lst_tup, wipeE_nil, wipeE_cons, cast_0, cast_1, cast_2, cast_3, cast_4, cast_5, cast_6, cast_7, cast_8, cast_9, cast_10, cast_11, cast_12, keysOf_nil, keysOf_cons, mergeS_nil, mergeS_cons, inR_s, sz_lt, sz_le, leq_nn, leq_nc, leq_cn, leq_cc, key_ss, key_ii, key_is, key_si, findK_nil, findK_cons, mapS_nil, mapS_cons, putS_nil, putS_cons, Option.bind_some, Option.map_some, Option.bind_none, Option.map_none, List.set_cons_zero, List.set_cons_succ, List.set_nil, List.getElem?_cons_zero, List.getElem?_cons_succ, List.length_cons, List.length_nil, List.nil_append, List.cons_append, List.map_cons, List.map_nil, if_true, if_false, Bool.false_eq_true, reduceIte, List.all_cons, List.all_nil, Bool.and_true, Bool.true_and, Bool.and_false, Bool.false_and, Bool.not_true, Bool.not_false, Bool.or_false, Bool.or_true, Bool.false_or, Bool.true_or, and_self, and_true, true_and, Int.toNat_natCast, decide_true, decide_false, List.take_zero, List.take_nil, List.take_succ_cons, List.drop_succ_cons, List.drop_zero, List.drop_nil, List.set_nil, List.replicate_succ, List.replicate_zero, List.foldl_cons, List.foldl_nil, Nat.reduceSub, Nat.reduceAdd, Nat.reduceLT, Nat.reduceLeDiff, Nat.reduceEqDiff, Nat.reduceMul, Int.reduceAdd, Int.reduceSub, Int.reduceMul, Int.reduceLT, Int.reduceLE, Int.reduceNeg, Int.reducePow, Int.reduceToNat, or_true, true_or, or_false, false_or, false_and, and_false, Nat.reducePow, not_true_eq_false, not_false_eq_true, Nat.add_zero, Nat.zero_add, Nat.sub_self, Nat.sub_zero, reduceCtorEq, Option.map_map, Int.reduceEq, Int.reduceNe, Int.reduceMod, Int.reduceDiv, List.append_nil, rngL_zero, at0, at1, at2, tupD, pairD]; exact ⟨_, rfl, okO_d _⟩
            · rintro ⟨o, δ, st⟩ ⟨h1, ⟨o3, h2, k3⟩, h3⟩
              dsimp only at h1 h2 h3
              subst h1 h2 h3
              exact ⟨rfl, ⟨_, _, rfl, okO_d _, k3⟩, rfl⟩
          · simp -implicitDefEqProofs only [run_bind, run_some, run_none, run_map, a_var, a_c, a_op, a_un, a_chain, tst_b, a_test, a_and, a_or, a_not, a_andV, a_orV, a_notV, a_if, a_nil, a_cons, a_tup, a_lst, a_new, a_fn, a_isi, a_call, asI_i, a_part, a_noPart, a_cut, a_app, a_ext, a_index, a_sub, a_ps0, a_ps1, a_disp, a_lc, a_tt, a_skip, andThen_nx, andThen_rt, andThen_bk, andThen_ct, a_seq, a_expr, a_ret, a_retN, a_brk, a_cnt, a_ifS, a_set, a_aug, a_asg, two_eq, a_par, a_put, a_daug, a_for, a_scoped, frzO_nx, frzO_bk, frzO_ct, frzO_rt, frzS_d, frzS_r, frzE_nil, frzE_none, frzE_some, a_gN, a_gsNil, a_gsCons, a_gTp, asStr_s, a_strI, asRng_i, a_rng1, asRng2_i, a_rng2, chkOf_d, a_seqI, a_cYes, items_tup, items_lst, litems_lst, ditems_tup, ditems_lst, toD_d, dataAll_nil, dataAll_cons, dataAll_mapd, asD_d, v_ii, v_addI, v_addS, v_addT, v_addL, v_neg, v_ltI, v_ltS, v_eq, v_ne, v_inS, v_notInS, v_ixS, v_ixR, v_ixT, v_ixL, v_cutS, v_cutT, v_cutL, v_lenS, v_lenR, v_lenT, v_lenL, v_abs, v_int1, v_listT, v_listL, v_tupleT, v_tupleL, v_isN, v_notN, isN_non, isN_r, isN_bl, isN_int, isN_str, isN_tup, isN_lst, ty_non, ty_bl, ty_int, ty_str, ty_tup, ty_lst, keyOf_i, keyOf_s, gAddI_i, gSubI_i, index_s, idxKind_s, isDat_d, isDat_r, svB_d, svB_r, moB_lst, moB_dk, natAbs10, asL_l, asK_k, itL_l, liL_l, tdL_l, tdL_k, dsL_k, dsL_l, tyL_l, tyL_k, lstAt_r, dkAt_r, items_r, litems_r, toD_r, dkS_r, dkS_tup, dkS_lst, dkS_dk, dkS_str, tyS_r, v_ixRef, v_lenRef, v_cutRef, ditems_r, v_listRef, v_tupleRef, v_eqRef, v_neRef, v_addRR, v_addRL, v_addLR, finO_nx, finO_rt, finO_bk, finO_ct, isTy_int_NoneType, isTy_int_bool, isTy_int_int, isTy_int_str, isTy_int_tuple, isTy_int_list, isTy_int_dict, isTy_bool_NoneType, isTy_bool_bool, isTy_bool_int, isTy_bool_str, isTy_bool_tuple, isTy_bool_list, isTy_bool_dict, isTy_str_NoneType, isTy_str_bool, isTy_str_int, isTy_str_str, isTy_str_tuple, isTy_str_list, isTy_str_dict, isTy_tuple_NoneType, isTy_tuple_bool, isTy_tuple_int, isTy_tuple_str, isTy_tuple_tuple, isTy_tuple_list, isTy_tuple_dict, isTy_list_NoneType, isTy_list_bool, isTy_list_int, isTy_list_str, isTy_list_tuple, isTy_list_list, isTy_list_dict, isTy_dict_NoneType, isTy_dict_bool, isTy_dict_int, isTy_dict_str, isTy_dict_tuple, isTy_dict_list, isTy_dict_dict, eo_non, eo_bl, eo_int, eo_str, eo_tup, eo_lst, ev_nn, ev_ii, ev_bb, ev_ss, ev_tt, ev_ll, ea_nn, ea_nc, ea_cn, ea_cc, ea_mapd, ev_non_bl, ev_non_int, ev_non_str, ev_non_tup, ev_non_lst, ev_bl_non, ev_bl_str, ev_bl_tup, ev_bl_lst, ev_int_non, ev_int_str, ev_int_tup, ev_int_lst, ev_str_non, ev_str_bl, ev_str_int, ev_str_tup, ev_str_lst, ev_tup_non, ev_tup_bl, ev_tup_int, ev_tup_str, ev_tup_lst, ev_lst_non, ev_lst_bl, ev_lst_int, ev_lst_str, ev_lst_tup, wipeE_nil, wipeE_cons, cast_0, cast_1, cast_2, cast_3, cast_4, cast_5, cast_6, cast_7, cast_8, cast_9, cast_10, cast_11, cast_12, keysOf_nil, keysOf_cons, mergeS_nil, mergeS_cons, inR_s, sz_lt, sz_le, leq_nn, leq_nc, leq_cn, leq_cc, key_ss, key_ii, key_is, key_si, findK_nil, findK_cons, mapS_nil, mapS_cons, putS_nil, putS_cons, Option.bind_some, Option.map_some, Option.bind_none, Option.map_none, List.set_cons_zero, List.set_cons_succ, List.set_nil, List.getElem?_cons_zero, List.getElem?_cons_succ, List.length_cons, List.length_nil, List.nil_append, List.cons_append, List.map_cons, List.map_nil, if_true, if_false, Bool.false_eq_true, reduceIte, List.all_cons, List.all_nil, Bool.and_true, Bool.true_and, Bool.and_false, Bool.false_and, Bool.not_true, Bool.not_false, Bool.or_false, Bool.or_true, Bool.false_or, Bool.true_or, and_self, and_true, true_and, Int.toNat_natCast, decide_true, decide_false, List.take_zero, List.take_nil, List.take_succ_cons, List.drop_succ_cons, List.drop_zero, List.drop_nil, List.set_nil, List.replicate_succ, List.replicate_zero, List.foldl_cons, List.foldl_nil, Nat.reduceSub, Nat.reduceAdd, Nat.reduceLT, Nat.reduceLeDiff, Nat.reduceEqDiff, Nat.reduceMul, Int.reduceAdd, Int.reduceSub, Int.reduceMul, Int.reduceLT, Int.reduceLE, Int.reduceNeg, Int.reducePow, Int.reduceToNat, or_true, true_or, or_false, false_or, false_and, and_false, Nat.reducePow, not_true_eq_false, not_false_eq_true, Nat.add_zero, Nat.zero_add, Nat.sub_self, Nat.sub_zero, reduceCtorEq, Option.map_map, Int.reduceEq, Int.reduceNe, Int.reduceMod, Int.reduceDiv, List.append_nil, rngL_zero, at0, at1, at2, tupD, rowD, hl]
            exact ⟨_, _, rfl, okO_d _, k3⟩
        | _ => simp -implicitDefEqProofs only [run_bind, run_some, run_none, run_map, a_var, a_c, a_op, a_un, a_chain, tst_b, a_test, a_and, a_or, a_not, a_andV, a_orV, a_notV, a_if, a_nil, a_cons, a_tup, a_lst, a_new, a_fn, a_isi, a_call, asI_i, a_part, a_noPart, a_cut, a_app, a_ext, a_index, a_sub, a_ps0, a_ps1, a_disp, a_lc, a_tt, a_skip, andThen_nx, andThen_rt, andThen_bk, andThen_ct, a_seq, a_expr, a_ret, a_retN, a_brk, a_cnt, a_ifS, a_set, a_aug, a_asg, two_eq, a_par, a_put, a_daug, a_for, a_scoped, frzO_nx, frzO_bk, frzO_ct, frzO_rt, frzS_d, frzS_r, frzE_nil, frzE_none, frzE_some, a_gN, a_gsNil, a_gsCons, a_gTp, asStr_s, a_strI, asRng_i, a_rng1, asRng2_i, a_rng2, chkOf_d, a_seqI, a_cYes, items_tup, items_lst, litems_lst, ditems_tup, ditems_lst, toD_d, dataAll_nil, dataAll_cons, dataAll_mapd, asD_d, v_ii, v_addI, v_addS, v_addT, v_addL, v_neg, v_ltI, v_ltS, v_eq, v_ne, v_inS, v_notInS, v_ixS, v_ixR, v_ixT, v_ixL, v_cutS, v_cutT, v_cutL, v_lenS, v_lenR, v_lenT, v_lenL, v_abs, v_int1, v_listT, v_listL, v_tupleT, v_tupleL, v_isN, v_notN, isN_non, isN_r, isN_bl, isN_int, isN_str, isN_tup, isN_lst, ty_non, ty_bl, ty_int, ty_str, ty_tup, ty_lst, keyOf_i, keyOf_s, gAddI_i, gSubI_i, index_s, idxKind_s, isDat_d, isDat_r, svB_d, svB_r, moB_lst, moB_dk, natAbs10, asL_l, asK_k, itL_l, liL_l, tdL_l, tdL_k, dsL_k, dsL_l, tyL_l, tyL_k, lstAt_r, dkAt_r, items_r, litems_r, toD_r, dkS_r, dkS_tup, dkS_lst, dkS_dk, dkS_str, tyS_r, v_ixRef, v_lenRef, v_cutRef, ditems_r, v_listRef, v_tupleRef, v_eqRef, v_neRef, v_addRR, v_addRL, v_addLR, finO_nx, finO_rt, finO_bk, finO_ct, isTy_int_NoneType, isTy_int_bool, isTy_int_int, isTy_int_str, isTy_int_tuple, isTy_int_list, isTy_int_dict, isTy_bool_NoneType, isTy_bool_bool, isTy_bool_int, isTy_bool_str, isTy_bool_tuple, isTy_bool_list, isTy_bool_dict, isTy_str_NoneType, isTy_str_bool, isTy_str_int, isTy_str_str, isTy_str_tuple, isTy_str_list, isTy_str_dict, isTy_tuple_NoneType, isTy_tuple_bool, isTy_tuple_int, isTy_tuple_str, isTy_tuple_tuple, isTy_tuple_list, isTy_tuple_dict, isTy_list_NoneType, isTy_list_bool, isTy_list_int, isTy_list_str, isTy_list_tuple, isTy_list_list, isTy_list_dict, isTy_dict_NoneType, isTy_dict_bool, isTy_dict_int, isTy_dict_str, isTy_dict_tuple, isTy_dict_list, isTy_dict_dict, eo_non, eo_bl, eo_int, eo_str, eo_tup, eo_lst, ev_nn, ev_ii, ev_bb, ev_ss, ev_tt, ev_ll, ea_nn, ea_nc, ea_cn, ea_cc, ea_mapd, ev_non_bl, ev_non_int, ev_non_str, ev_non_tup, ev_non_lst, ev_bl_non, ev_bl_str, ev_bl_tup, ev_bl_lst, ev_int_non, ev_int_str, ev_int_tup, ev_int_lst, ev_str_non, ev_str_bl, ev_str_int, ev_str_tup, ev_str_lst, ev_tup_non, ev_tup_bl, ev_tup_int, ev_tup_str, ev_tup_lst, ev_lst_non, ev_lst_bl, ev_lst_int, ev_lst_str, ev_lst_tup, wipeE_nil, wipeE_cons, cast_0, cast_1, cast_2, cast_3, cast_4, cast_5, cast_6, cast_7, cast_8, cast_9, cast_10, cast_11, cast_12, keysOf_nil, keysOf_cons, mergeS_nil, mergeS_cons, inR_s, sz_lt, sz_le, leq_nn, leq_nc, leq_cn, leq_cc, key_ss, key_ii, key_is, key_si, findK_nil, findK_cons, mapS_nil, mapS_cons, putS_nil, putS_cons, Option.bind_some, Option.map_some, Option.bind_none, Option.map_none, List.set_cons_zero, List.set_cons_succ, List.set_nil, List.getElem?_cons_zero, List.getElem?_cons_succ, List.length_cons, List.length_nil, List.nil_append, List.cons_append, List.map_cons, List.map_nil, if_true, if_false, Bool.false_eq_true, reduceIte, List.all_cons, List.all_nil, Bool.and_true, Bool.true_and, Bool.and_false, Bool.false_and, Bool.not_true, Bool.not_false, Bool.or_false, Bool.or_true, Bool.false_or, Bool.true_or, and_self, and_true, true_and, Int.toNat_natCast, decide_true, decide_false, List.take_zero, List.take_nil, List.take_succ_cons, List.drop_succ_cons, List.drop_zero, List.drop_nil, List.set_nil, List.replicate_succ, List.replicate_zero, List.foldl_cons, List.foldl_nil, Nat.reduceSub, Nat.reduceAdd, Nat.reduceLT, Nat.reduceLeDiff, Nat.reduceEqDiff, Nat.reduceMul, Int.reduceAdd, Int.reduceSub, Int.reduceMul, Int.reduceLT, Int.reduceLE, Int.reduceNeg, Int.reducePow, Int.reduceToNat, or_true, true_or, or_false, false_or, false_and, and_false, Nat.reducePow, not_true_eq_false, not_false_eq_true, Nat.add_zero, Nat.zero_add, Nat.sub_self, Nat.sub_zero, reduceCtorEq, Option.map_map, Int.reduceEq, Int.reduceNe, Int.reduceMod, Int.reduceDiv, List.append_nil, rngL_zero, at0, at1, at2, tupD, rowD]; exact ⟨_, _, rfl, okO_d _, k3⟩
      · rintro ⟨o, δ, st⟩ ⟨h1, ⟨o2, o3, h2, k2, k3⟩, h3⟩
        dsimp only at h1 h2 h3
        subst h1 h2 h3
        cases hall : rows.all (rowD s.length rows.length) <;> simp -implicitDefEqProofs only [run_bind, run_some, run_none, run_map, a_var, a_c, a_op, a_un, a_chain, tst_b, a_test, a_and, a_or, a_not, a_andV, a_orV, a_notV, a_if, a_nil, a_cons, a_tup, a_lst, a_new, a_fn, a_isi, a_call, asI_i, a_part, a_noPart, a_cut, a_app, a_ext, a_index, a_sub, a_ps0, a_ps1, a_disp, a_lc, a_tt, a_skip, andThen_nx, andThen_rt, andThen_bk, andThen_ct, a_seq, a_expr, a_ret, a_retN, a_brk, a_cnt, a_ifS, a_set, a_aug, a_asg, two_eq, a_par, a_put, a_daug, a_for, a_scoped, frzO_nx, frzO_bk, frzO_ct, frzO_rt, frzS_d, frzS_r, frzE_nil, frzE_none, frzE_some, a_gN, a_gsNil, a_gsCons, a_gTp, asStr_s, a_strI, asRng_i, a_rng1, asRng2_i, a_rng2, chkOf_d, a_seqI, a_cYes, items_tup, items_lst, litems_lst, ditems_tup, ditems_lst, toD_d, dataAll_nil, dataAll_cons, dataAll_mapd, asD_d, v_ii, v_addI, v_addS, v_addT, v_addL, v_neg, v_ltI, v_ltS, v_eq, v_ne, v_inS, v_notInS, v_ixS, v_ixR, v_ixT, v_ixL, v_cutS, v_cutT, v_cutL, v_lenS, v_lenR, v_lenT, v_lenL, v_abs, v_int1, v_listT, v_listL, v_tupleT, v_tupleL, v_isN, v_notN, isN_non, isN_r, isN_bl, isN_int, isN_str, isN_tup, isN_lst, ty_non, ty_bl, ty_int, ty_str, ty_tup, ty_lst, keyOf_i, keyOf_s, gAddI_i, gSubI_i, index_s, idxKind_s, isDat_d, isDat_r, svB_d, svB_r, moB_lst, moB_dk, natAbs10, asL_l, asK_k, itL_l, liL_l, tdL_l, tdL_k, dsL_k, dsL_l, tyL_l, tyL_k, lstAt_r, dkAt_r, items_r, litems_r, toD_r, dkS_r, dkS_tup, dkS_lst, dkS_dk, dkS_str, tyS_r, v_ixRef, v_lenRef, v_cutRef, ditems_r, v_listRef, v_tupleRef, v_eqRef, v_neRef, v_addRR, v_addRL, v_addLR, finO_nx, finO_rt, finO_bk, finO_ct, isTy_int_NoneType, isTy_int_bool, isTy_int_int, isTy_int_str, isTy_int_tuple, isTy_int_list, isTy_int_dict, isTy_bool_NoneType, isTy_bool_bool, isTy_bool_int, isTy_bool_str, isTy_bool_tuple, isTy_bool_list, isTy_bool_dict, isTy_str_NoneType, isTy_str_bool, isTy_str_int, isTy_str_str, isTy_str_tuple, isTy_str_list, isTy_str_dict, isTy_tuple_NoneType, isTy_tuple_bool, isTy_tuple_int, isTy_tuple_str, isTy_tuple_tuple, isTy_tuple_list, isTy_tuple_dict, isTy_list_NoneType, isTy_list_bool, isTy_list_int, isTy_list_str, isTy_list_tuple, isTy_list_list, isTy_list_dict, isTy_dict_NoneType, isTy_dict_bool, isTy_dict_int, isTy_dict_str, isTy_dict_tuple, isTy_dict_list, isTy_dict_dict, eo_non, eo_bl, eo_int, eo_str, eo_tup, eo_lst, ev_nn, ev_ii, ev_bb, ev_ss, ev_tt, ev_ll, ea_nn, ea_nc, ea_cn, ea_cc, ea_mapd, ev_non_bl, ev_non_int, ev_non_str, ev_non_tup, ev_non_lst, ev_bl_non, ev_bl_str, ev_bl_tup, ev_bl_lst, ev_int_non, ev_int_str, ev_int_tup, ev_int_lst, ev_str_non, ev_str_bl, ev_str_int, ev_str_tup, ev_str_lst, ev_tup_non, ev_tup_bl, ev_tup_int, ev_tup_str, ev_tup_lst, ev_lst_non, ev_lst_bl, ev_lst_int, ev_lst_str, ev_lst_tup, wipeE_nil, wipeE_cons, cast_0, cast_1, cast_2, cast_3, cast_4, cast_5, cast_6, cast_7, cast_8, cast_9, cast_10, cast_11, cast_12, keysOf_nil, keysOf_cons, mergeS_nil, mergeS_cons, inR_s, sz_lt, sz_le, leq_nn, leq_nc, leq_cn, leq_cc, key_ss, key_ii, key_is, key_si, findK_nil, findK_cons, mapS_nil, mapS_cons, putS_nil, putS_cons, Option.bind_some, Option.map_some, Option.bind_none, Option.map_none, List.set_cons_zero, List.set_cons_succ, List.set_nil, List.getElem?_cons_zero, List.getElem?_cons_succ, List.length_cons, List.length_nil, List.nil_append, List.cons_append, List.map_cons, List.map_nil, if_true, if_false, Bool.false_eq_true, reduceIte, List.all_cons, List.all_nil, Bool.and_true, Bool.true_and, Bool.and_false, Bool.false_and, Bool.not_true, Bool.not_false, Bool.or_false, Bool.or_true, Bool.false_or, Bool.true_or, and_self, and_true, true_and, Int.toNat_natCast, decide_true, decide_false, List.take_zero, List.take_nil, List.take_succ_cons, List.drop_succ_cons, List.drop_zero, List.drop_nil, List.set_nil, List.replicate_succ, List.replicate_zero, List.foldl_cons, List.foldl_nil, Nat.reduceSub, Nat.reduceAdd, Nat.reduceLT, Nat.reduceLeDiff, Nat.reduceEqDiff, Nat.reduceMul, Int.reduceAdd, Int.reduceSub, Int.reduceMul, Int.reduceLT, Int.reduceLE, Int.reduceNeg, Int.reducePow, Int.reduceToNat, or_true, true_or, or_false, false_or, false_and, and_false, Nat.reducePow, not_true_eq_false, not_false_eq_true, Nat.add_zero, Nat.zero_add, Nat.sub_self, Nat.sub_zero, reduceCtorEq, Option.map_map, Int.reduceEq, Int.reduceNe, Int.reduceMod, Int.reduceDiv, List.append_nil, rngL_zero, at0, at1, at2, boxD, hne, hall, frzE_okO k2, frzE_okO k3]
  | _ => simp -implicitDefEqProofs only [run_bind, run_some, run_none, run_map, a_var, a_c, a_op, a_un, a_chain, tst_b, a_test, a_and, a_or, a_not, a_andV, a_orV, a_notV, a_if, a_nil, a_cons, a_tup, a_lst, a_new, a_fn, a_isi, a_call, asI_i, a_part, a_noPart, a_cut, a_app, a_ext, a_index, a_sub, a_ps0, a_ps1, a_disp, a_lc, a_tt, a_skip, andThen_nx, andThen_rt, andThen_bk, andThen_ct, a_seq, a_expr, a_ret, a_retN, a_brk, a_cnt, a_ifS, a_set, a_aug, a_asg, two_eq, a_par, a_put, a_daug, a_for, a_scoped, frzO_nx, frzO_bk, frzO_ct, frzO_rt, frzS_d, frzS_r, frzE_nil, frzE_none, frzE_some, a_gN, a_gsNil, a_gsCons, a_gTp, asStr_s, a_strI, asRng_i, a_rng1, asRng2_i, a_rng2, chkOf_d, a_seqI, a_cYes, items_tup, items_lst, litems_lst, ditems_tup, ditems_lst, toD_d, dataAll_nil, dataAll_cons, dataAll_mapd, asD_d, v_ii, v_addI, v_addS, v_addT, v_addL, v_neg, v_ltI, v_ltS, v_eq, v_ne, v_inS, v_notInS, v_ixS, v_ixR, v_ixT, v_ixL, v_cutS, v_cutT, v_cutL, v_lenS, v_lenR, v_lenT, v_lenL, v_abs, v_int1, v_listT, v_listL, v_tupleT, v_tupleL, v_isN, v_notN, isN_non, isN_r, isN_bl, isN_int, isN_str, isN_tup, isN_lst, ty_non, ty_bl, ty_int, ty_str, ty_tup, ty_lst, keyOf_i, keyOf_s, gAddI_i, gSubI_i, index_s, idxKind_s, isDat_d, isDat_r, svB_d, svB_r, moB_lst, moB_dk, natAbs10, asL_l, asK_k, itL_l, liL_l, tdL_l, tdL_k, dsL_k, dsL_l, tyL_l, tyL_k, lstAt_r, dkAt_r, items_r, litems_r, toD_r, dkS_r, dkS_tup, dkS_lst, dkS_dk, dkS_str, tyS_r, v_ixRef, v_lenRef, v_cutRef, ditems_r, v_listRef, v_tupleRef, v_eqRef, v_neRef, v_addRR, v_addRL, v_addLR, finO_nx, finO_rt, finO_bk, finO_ct, isTy_int_NoneType, isTy_int_bool, isTy_int_int, isTy_int_str, isTy_int_tuple, isTy_int_list, isTy_int_dict, isTy_bool_NoneType, isTy_bool_bool, isTy_bool_int, isTy_bool_str, isTy_bool_tuple, isTy_bool_list, isTy_bool_dict, isTy_str_NoneType, isTy_str_bool, isTy_str_int, isTy_str_str, isTy_str_tuple, isTy_str_list, isTy_str_dict, isTy_tuple_NoneType, isTy_tuple_bool, isTy_tuple_int, isTy_tuple_str, isTy_tuple_tuple, isTy_tuple_list, isTy_tuple_dict, isTy_list_NoneType, isTy_list_bool, isTy_list_int, isTy_list_str, isTy_list_tuple, isTy_list_list, isTy_list_dict, isTy_dict_NoneType, isTy_dict_bool, isTy_dict_int, isTy_dict_str, isTy_dict_tuple, isTy_dict_list, isTy_dict_dict, eo_non, eo_bl, eo_int, eo_str, eo_tup, eo_lst, ev_nn, ev_ii, ev_bb, ev_ss, ev_tt, ev_ll, ea_nn, ea_nc, ea_cn, ea_cc, ea_mapd, ev_non_bl, ev_non_int, ev_non_str, ev_non_tup, ev_non_lst, ev_bl_non, ev_bl_str, ev_bl_tup, ev_bl_lst, ev_int_non, ev_int_str, ev_int_tup, ev_int_lst, ev_str_non, ev_str_bl, ev_str_int, ev_str_tup, ev_str_lst, ev_tup_non, ev_tup_bl, ev_tup_int, ev_tup_str, ev_tup_lst, ev_lst_non, ev_lst_bl, ev_lst_int, ev_lst_str, ev_lst_tup, wipeE_nil, wipeE_cons, cast_0, cast_1, cast_2, cast_3, cast_4, cast_5, cast_6, cast_7, cast_8, cast_9, cast_10, cast_11, cast_12, keysOf_nil, keysOf_cons, mergeS_nil, mergeS_cons, inR_s, sz_lt, sz_le, leq_nn, leq_nc, leq_cn, leq_cc, key_ss, key_ii, key_is, key_si, findK_nil, findK_cons, mapS_nil, mapS_cons, putS_nil, putS_cons, Option.bind_some, Option.map_some, Option.bind_none, Option.map_none, List.set_cons_zero, List.set_cons_succ, List.set_nil, List.getElem?_cons_zero, List.getElem?_cons_succ, List.length_cons, List.length_nil, List.nil_append, List.cons_append, List.map_cons, List.map_nil, if_true, if_false, Bool.false_eq_true, reduceIte, List.all_cons, List.all_nil, Bool.and_true, Bool.true_and, Bool.and_false, Bool.false_and, Bool.not_true, Bool.not_false, Bool.or_false, Bool.or_true, Bool.false_or, Bool.true_or, and_self, and_true, true_and, Int.toNat_natCast, decide_true, decide_false, List.take_zero, List.take_nil, List.take_succ_cons, List.drop_succ_cons, List.drop_zero, List.drop_nil, List.set_nil, List.replicate_succ, List.replicate_zero, List.foldl_cons, List.foldl_nil, Nat.reduceSub, Nat.reduceAdd, Nat.reduceLT, Nat.reduceLeDiff, Nat.reduceEqDiff, Nat.reduceMul, Int.reduceAdd, Int.reduceSub, Int.reduceMul, Int.reduceLT, Int.reduceLE, Int.reduceNeg, Int.reducePow, Int.reduceToNat, or_true, true_or, or_false, false_or, false_and, and_false, Nat.reducePow, not_true_eq_false, not_false_eq_true, Nat.add_zero, Nat.zero_add, Nat.sub_self, Nat.sub_zero, reduceCtorEq, Option.map_map, Int.reduceEq, Int.reduceNe, Int.reduceMod, Int.reduceDiv, List.append_nil, rngL_zero, at0, at1, at2, boxD]
theorem p_pair (k : Nat) (d : D) (h : eqOk 30 d = true) : F__law_is_pair [.d d, .d (.int k)] [] = some (.d (.bl (pairD k d)), []) := by
  unfold F__law_is_pair g__law_is_pair
  rw [a_runF]
  cases d with
  | dk => unfold eqOk at h; cases h
  | scr => unfold eqOk at h; cases h
  | tup ps =>
    match ps, h with
    | [], _ => simp -implicitDefEqProofs only [run_bind, run_some, run_none, run_map, a_var, a_c, a_op, a_un, a_chain, tst_b, a_test, a_and, a_or, a_not, a_andV, a_orV, a_notV, a_if, a_nil, a_cons, a_tup, a_lst, a_new, a_fn, a_isi, a_call, asI_i, a_part, a_noPart, a_cut, a_app, a_ext, a_index, a_sub, a_ps0, a_ps1, a_disp, a_lc, a_tt, a_skip, andThen_nx, andThen_rt, andThen_bk, andThen_ct, a_seq, a_expr, a_ret, a_retN, a_brk, a_cnt, a_ifS, a_set, a_aug, a_asg, two_eq, a_par, a_put, a_daug, a_for, a_scoped, frzO_nx, frzO_bk, frzO_ct, frzO_rt, frzS_d, frzS_r, frzE_nil, frzE_none, frzE_some, a_gN, a_gsNil, a_gsCons, a_gTp, asStr_s, a_strI, asRng_i, a_rng1, asRng2_i, a_rng2, chkOf_d, a_seqI, a_cYes, items_tup, items_lst, litems_lst, ditems_tup, ditems_lst, toD_d, dataAll_nil, dataAll_cons, dataAll_mapd, asD_d, v_ii, v_addI, v_addS, v_addT, v_addL, v_neg, v_ltI, v_ltS, v_eq, v_ne, v_inS, v_notInS, v_ixS, v_ixR, v_ixT, v_ixL, v_cutS, v_cutT, v_cutL, v_lenS, v_lenR, v_lenT, v_lenL, v_abs, v_int1, v_listT, v_listL, v_tupleT, v_tupleL, v_isN, v_notN, isN_non, isN_r, isN_bl, isN_int, isN_str, isN_tup, isN_lst, ty_non, ty_bl, ty_int, ty_str, ty_tup, ty_lst, keyOf_i, keyOf_s, gAddI_i, gSubI_i, index_s, idxKind_s, isDat_d, isDat_r, svB_d, svB_r, moB_lst, moB_dk, natAbs10, asL_l, asK_k, itL_l, liL_l, tdL_l, tdL_k, dsL_k, dsL_l, tyL_l, tyL_k, lstAt_r, dkAt_r, items_r, litems_r, toD_r, dkS_r, dkS_tup, dkS_lst, dkS_dk, dkS_str, tyS_r, v_ixRef, v_lenRef, v_cutRef, ditems_r, v_listRef, v_tupleRef, v_eqRef, v_neRef, v_addRR, v_addRL, v_addLR, finO_nx, finO_rt, finO_bk, finO_ct, isTy_int_NoneType, isTy_int_bool, isTy_int_int, isTy_int_str, isTy_int_tuple, isTy_int_list, isTy_int_dict, isTy_bool_NoneType, isTy_bool_bool, isTy_bool_int, isTy_bool_str, isTy_bool_tuple, isTy_bool_list, isTy_bool_dict, isTy_str_NoneType, isTy_str_bool, isTy_str_int, isTy_str_str, isTy_str_tuple, isTy_str_list, isTy_str_dict, isTy_tuple_NoneType, isTy_tuple_bool, isTy_tuple_int, isTy_tuple_str, isTy_tuple_tuple, isTy_tuple_list, isTy_tuple_dict, isTy_list_NoneType, isTy_list_bool, isTy_list_int, isTy_list_str, isTy_list_tuple, isTy_list_list, isTy_list_dict, isTy_dict_NoneType, isTy_dict_bool, isTy_dict_int, isTy_dict_str, isTy_dict_tuple, isTy_dict_list, isTy_dict_dict, eo_non, eo_bl, eo_int, eo_str, eo_tup, eo_lst, ev_nn, ev_ii, ev_bb, ev_ss, ev_tt, ev_ll, ea_nn, ea_nc, ea_cn, ea_cc, ea_mapd, ev_non_bl, ev_non_int, ev_non_str, ev_non_tup, ev_non_lst, ev_bl_non, ev_bl_str, ev_bl_tup, ev_bl_lst, ev_int_non, ev_int_str, ev_int_tup, ev_int_lst, ev_str_non, ev_str_bl, ev_str_int, ev_str_tup, ev_str_lst, ev_tup_non, ev_tup_bl, ev_tup_int, ev_tup_str, ev_tup_lst, ev_lst_non, ev_lst_bl, ev_lst_int, ev_lst_str, ev_lst_tup, wipeE_nil, wipeE_cons, cast_0, cast_1, cast_2, cast_3, cast_4, cast_5, cast_6, cast_7, cast_8, cast_9, cast_10, cast_11, cast_12, keysOf_nil, keysOf_cons, mergeS_nil, mergeS_cons, inR_s, sz_lt, sz_le, leq_nn, leq_nc, leq_cn, leq_cc, key_ss, key_ii, key_is, key_si, findK_nil, findK_cons, mapS_nil, mapS_cons, putS_nil, putS_cons, Option.bind_some, Option.map_some, Option.bind_none, Option.map_none, List.set_cons_zero, List.set_cons_succ, List.set_nil, List.getElem?_cons_zero, List.getElem?_cons_succ, List.length_cons, List.length_nil, List.nil_append, List.cons_append, List.map_cons, List.map_nil, if_true, if_false, Bool.false_eq_true, reduceIte, List.all_cons, List.all_nil, Bool.and_true, Bool.true_and, Bool.and_false, Bool.false_and, Bool.not_true, Bool.not_false, Bool.or_false, Bool.or_true, Bool.false_or, Bool.true_or, and_self, and_true, true_and, Int.toNat_natCast, decide_true, decide_false, List.take_zero, List.take_nil, List.take_succ_cons, List.drop_succ_cons, List.drop_zero, List.drop_nil, List.set_nil, List.replicate_succ, List.replicate_zero, List.foldl_cons, List.foldl_nil, Nat.reduceSub, Nat.reduceAdd, Nat.reduceLT, Nat.reduceLeDiff, Nat.reduceEqDiff, Nat.reduceMul, Int.reduceAdd, Int.reduceSub, Int.reduceMul, Int.reduceLT, Int.reduceLE, Int.reduceNeg, Int.reducePow, Int.reduceToNat, or_true, true_or, or_false, false_or, false_and, and_false, Nat.reducePow, not_true_eq_false, not_false_eq_true, Nat.add_zero, Nat.zero_add, Nat.sub_self, Nat.sub_zero, reduceCtorEq, Option.map_map, Int.reduceEq, Int.reduceNe, Int.reduceMod, Int.reduceDiv, List.append_nil, rngL_zero, at0, at1, at2, pairD]
    | [a], _ => simp -implicitDefEqProofs only [run_bind, run_some, run_none, run_map, a_var, a_c, a_op, a_un, a_chain, tst_b, a_test, a_and, a_or, a_not, a_andV, a_orV, a_notV, a_if, a_nil, a_cons, a_tup, a_lst, a_new, a_fn, a_isi, a_call, asI_i, a_part, a_noPart, a_cut, a_app, a_ext, a_index, a_sub, a_ps0, a_ps1, a_disp, a_lc, a_tt, a_skip, andThen_nx, andThen_rt, andThen_bk, andThen_ct, a_seq, a_expr, a_ret, a_retN, a_brk, a_cnt, a_ifS, a_set, a_aug, a_asg, two_eq, a_par, a_put, a_daug, a_for, a_scoped, frzO_nx, frzO_bk, frzO_ct, frzO_rt, frzS_d, frzS_r, frzE_nil, frzE_none, frzE_some, a_gN, a_gsNil, a_gsCons, a_gTp, asStr_s, a_strI, asRng_i, a_rng1, asRng2_i, a_rng2, chkOf_d, a_seqI, a_cYes, items_tup, items_lst, litems_lst, ditems_tup, ditems_lst, toD_d, dataAll_nil, dataAll_cons, dataAll_mapd, asD_d, v_ii, v_addI, v_addS, v_addT, v_addL, v_neg, v_ltI, v_ltS, v_eq, v_ne, v_inS, v_notInS, v_ixS, v_ixR, v_ixT, v_ixL, v_cutS, v_cutT, v_cutL, v_lenS, v_lenR, v_lenT, v_lenL, v_abs, v_int1, v_listT, v_listL, v_tupleT, v_tupleL, v_isN, v_notN, isN_non, isN_r, isN_bl, isN_int, isN_str, isN_tup, isN_lst, ty_non, ty_bl, ty_int, ty_str, ty_tup, ty_lst, keyOf_i, keyOf_s, gAddI_i, gSubI_i, index_s, idxKind_s, isDat_d, isDat_r, svB_d, svB_r, moB_lst, moB_dk, natAbs10, asL_l, asK_k, itL_l, liL_l, tdL_l, tdL_k, dsL_k, dsL_l, tyL_l, tyL_k, lstAt_r, dkAt_r, items_r, litems_r, toD_r, dkS_r, dkS_tup, dkS_lst, dkS_dk, dkS_str, tyS_r, v_ixRef, v_lenRef, v_cutRef, ditems_r, v_listRef, v_tupleRef, v_eqRef, v_neRef, v_addRR, v_addRL, v_addLR, finO_nx, finO_rt, finO_bk, finO_ct, isTy_int_NoneType, isTy_int_bool, isTy_int_int, isTy_int_str, isTy_int_tuple, isTy_int_list, isTy_int_dict, isTy_bool_NoneType, isTy_bool_bool, isTy_bool_int, isTy_bool_str, isTy_bool_tuple, isTy_bool_list, isTy_bool_dict, isTy_str_NoneType, isTy_str_bool, isTy_str_int, isTy_str_str, isTy_str_tuple, isTy_str_list, isTy_str_dict, isTy_tuple_NoneType, isTy_tuple_bool, isTy_tuple_int, isTy_tuple_str, isTy_tuple_tuple, isTy_tuple_list, isTy_tuple_dict, isTy_list_NoneType, isTy_list_bool, isTy_list_int, isTy_list_str, isTy_list_tuple, isTy_list_list, isTy_list_dict, isTy_dict_NoneType, isTy_dict_bool, isTy_dict_int, isTy_dict_str, isTy_dict_tuple, isTy_dict_list, isTy_dict_dict, eo_non, eo_bl, eo_int, eo_str, eo_tup, eo_lst, ev_nn, ev_ii, ev_bb, ev_ss, ev_tt, ev_ll, ea_nn, ea_nc, ea_cn, ea_cc, ea_mapd, ev_non_bl, ev_non_int, ev_non_str, ev_non_tup, ev_non_lst, ev_bl_non, ev_bl_str, ev_bl_tup, ev_bl_lst, ev_int_non, ev_int_str, ev_int_tup, ev_int_lst, ev_str_non, ev_str_bl, ev_str_int, ev_str_tup, ev_str_lst, ev_tup_non, ev_tup_bl, ev_tup_int, ev_tup_str, ev_tup_lst, ev_lst_non, ev_lst_bl, ev_lst_int, ev_lst_str, ev_lst_tup, wipeE_nil, wipeE_cons, cast_0, cast_1, cast_2, cast_3, cast_4, cast_5, cast_6, cast_7, cast_8, cast_9, cast_10, cast_11, cast_12, keysOf_nil, keysOf_cons, mergeS_nil, mergeS_cons, inR_s, sz_lt, sz_le, leq_nn, leq_nc, leq_cn, leq_cc, key_ss, key_ii, key_is, key_si, findK_nil, findK_cons, mapS_nil, mapS_cons, putS_nil, putS_cons, Option.bind_some, Option.map_some, Option.bind_none, Option.map_none, List.set_cons_zero, List.set_cons_succ, List.set_nil, List.getElem?_cons_zero, List.getElem?_cons_succ, List.length_cons, List.length_nil, List.nil_append, List.cons_append, List.map_cons, List.map_nil, if_true, if_false, Bool.false_eq_true, reduceIte, List.all_cons, List.all_nil, Bool.and_true, Bool.true_and, Bool.and_false, Bool.false_and, Bool.not_true, Bool.not_false, Bool.or_false, Bool.or_true, Bool.false_or, Bool.true_or, and_self, and_true, true_and, Int.toNat_natCast, decide_true, decide_false, List.take_zero, List.take_nil, List.take_succ_cons, List.drop_succ_cons, List.drop_zero, List.drop_nil, List.set_nil, List.replicate_succ, List.replicate_zero, List.foldl_cons, List.foldl_nil, Nat.reduceSub, Nat.reduceAdd, Nat.reduceLT, Nat.reduceLeDiff, Nat.reduceEqDiff, Nat.reduceMul, Int.reduceAdd, Int.reduceSub, Int.reduceMul, Int.reduceLT, Int.reduceLE, Int.reduceNeg, Int.reducePow, Int.reduceToNat, or_true, true_or, or_false, false_or, false_and, and_false, Nat.reducePow, not_true_eq_false, not_false_eq_true, Nat.add_zero, Nat.zero_add, Nat.sub_self, Nat.sub_zero, reduceCtorEq, Option.map_map, Int.reduceEq, Int.reduceNe, Int.reduceMod, Int.reduceDiv, List.append_nil, rngL_zero, at0, at1, at2, pairD]
    | a :: b :: c :: r, _ =>
      have e : ¬ (((r.length + 1 + 1 + 1 : Nat) : Int) = 2) := by omega
      simp -implicitDefEqProofs only [run_bind, run_some, run_none, run_map, a_var, a_c, a_op, a_un, a_chain, tst_b, a_test, a_and, a_or, a_not, a_andV, a_orV, a_notV, a_if, a_nil, a_cons, a_tup, a_lst, a_new, a_fn, a_isi, a_call, asI_i, a_part, a_noPart, a_cut, a_app, a_ext, a_index, a_sub, a_ps0, a_ps1, a_disp, a_lc, a_tt, a_skip, andThen_nx, andThen_rt, andThen_bk, andThen_ct, a_seq, a_expr, a_ret, a_retN, a_brk, a_cnt, a_ifS, a_set, a_aug, a_asg, two_eq, a_par, a_put, a_daug, a_for, a_scoped, frzO_nx, frzO_bk, frzO_ct, frzO_rt, frzS_d, frzS_r, frzE_nil, frzE_none, frzE_some, a_gN, a_gsNil, a_gsCons, a_gTp, asStr_s, a_strI, asRng_i, a_rng1, asRng2_i, a_rng2, chkOf_d, a_seqI, a_cYes, items_tup, items_lst, litems_lst, ditems_tup, ditems_lst, toD_d, dataAll_nil, dataAll_cons, dataAll_mapd, asD_d, v_ii, v_addI, v_addS, v_addT, v_addL, v_neg, v_ltI, v_ltS, v_eq, v_ne, v_inS, v_notInS, v_ixS, v_ixR, v_ixT, v_ixL, v_cutS, v_cutT, v_cutL, v_lenS, v_lenR, v_lenT, v_lenL, v_abs, v_int1, v_listT, v_listL, v_tupleT, v_tupleL, v_isN, v_notN, isN_non, isN_r, isN_bl, isN_int, isN_str, isN_tup, isN_lst, ty_non, ty_bl, ty_int, ty_str, ty_tup, ty_lst, keyOf_i, keyOf_s, gAddI_i, gSubI_i, index_s, idxKind_s, isDat_d, isDat_r, svB_d, svB_r, moB_lst, moB_dk, natAbs10, asL_l, asK_k, itL_l, liL_l, tdL_l, tdL_k, dsL_k, dsL_l, tyL_l, tyL_k, lstAt_r, dkAt_r, items_r, litems_r, toD_r, dkS_r, dkS_tup, dkS_lst, dkS_dk, dkS_str, tyS_r, v_ixRef, v_lenRef, v_cutRef, ditems_r, v_listRef, v_tupleRef, v_eqRef, v_neRef, v_addRR, v_addRL, v_addLR, finO_nx, finO_rt, finO_bk, finO_ct, isTy_int_NoneType, isTy_int_bool, isTy_int_int, isTy_int_str, isTy_int_tuple, isTy_int_list, isTy_int_dict, isTy_bool_NoneType, isTy_bool_bool, isTy_bool_int, isTy_bool_str, isTy_bool_tuple, isTy_bool_list, isTy_bool_dict, isTy_str_NoneType, isTy_str_bool, isTy_str_int, isTy_str_str, isTy_str_tuple, isTy_str_list, isTy_str_dict, isTy_tuple_NoneType, isTy_tuple_bool, isTy_tuple_int, isTy_tuple_str, isTy_tuple_tuple, isTy_tuple_list, isTy_tuple_dict, isTy_list_NoneType, isTy_list_bool, isTy_list_int, isTy_list_str, isTy_list_tuple, isTy_list_list, isTy_list_dict, isTy_dict_NoneType, isTy_dict_bool, isTy_dict_int, isTy_dict_str, isTy_dict_tuple, isTy_dict_list, isTy_dict_dict, eo_non, eo_bl, eo_int, eo_str, eo_tup, eo_lst, ev_nn, ev_ii, ev_bb, ev_ss, ev_tt, ev_ll, ea_nn, ea_nc, ea_cn, ea_cc, ea_mapd, ev_non_bl, ev_non_int, ev_non_str, ev_non_tup, ev_non_lst, ev_bl_non, ev_bl_str, ev_bl_tup, ev_bl_lst, ev_int_non, ev_int_str, ev_int_tup, ev_int_lst, ev_str_non, ev_str_bl, ev_str_int, ev_str_tup, ev_str_lst, ev_tup_non, ev_tup_bl, ev_tup_int, ev_tup_str, ev_tup_lst, ev_lst_non, ev_lst_bl, ev_lst_int, ev_lst_str, ev_lst_tup, wipeE_nil, wipeE_cons, cast_0, cast_1, cast_2, cast_3, cast_4, cast_5, cast_6, cast_7, cast_8, cast_9, cast_10, cast_11, cast_12, keysOf_nil, keysOf_cons, mergeS_nil, mergeS_cons, inR_s, sz_lt, sz_le, leq_nn, leq_nc, leq_cn, leq_cc, key_ss, key_ii, key_is, key_si, findK_nil, findK_cons, mapS_nil, mapS_cons, putS_nil, putS_cons, Option.bind_some, Option.map_some, Option.bind_none, Option.map_none, List.set_cons_zero, List.set_cons_succ, List.set_nil, List.getElem?_cons_zero, List.getElem?_cons_succ, List.length_cons, List.length_nil, List.nil_append, List.cons_append, List.map_cons, List.map_nil, if_true, if_false, Bool.false_eq_true, reduceIte, List.all_cons, List.all_nil, Bool.and_true, Bool.true_and, Bool.and_false, Bool.false_and, Bool.not_true, Bool.not_false, Bool.or_false, Bool.or_true, Bool.false_or, Bool.true_or, and_self, and_true, true_and, Int.toNat_natCast, decide_true, decide_false, List.take_zero, List.take_nil, List.take_succ_cons, List.drop_succ_cons, List.drop_zero, List.drop_nil, List.set_nil, List.replicate_succ, List.replicate_zero, List.foldl_cons, List.foldl_nil, Nat.reduceSub, Nat.reduceAdd, Nat.reduceLT, Nat.reduceLeDiff, Nat.reduceEqDiff, Nat.reduceMul, Int.reduceAdd, Int.reduceSub, Int.reduceMul, Int.reduceLT, Int.reduceLE, Int.reduceNeg, Int.reducePow, Int.reduceToNat, or_true, true_or, or_false, false_or, false_and, and_false, Nat.reducePow, not_true_eq_false, not_false_eq_true, Nat.add_zero, Nat.zero_add, Nat.sub_self, Nat.sub_zero, reduceCtorEq, Option.map_map, Int.reduceEq, Int.reduceNe, Int.reduceMod, Int.reduceDiv, List.append_nil, rngL_zero, at0, at1, at2, pairD, decide_eq_false e]
    | [a, b], h =>
      have hq := ok29 h
      have h1 := hq a (by simp)
      have h2 := hq b (by simp)
      simp -implicitDefEqProofs only [run_bind, run_some, run_none, run_map, a_var, a_c, a_op, a_un, a_chain, tst_b, a_test, a_and, a_or, a_not, a_andV, a_orV, a_notV, a_if, a_nil, a_cons, a_tup, a_lst, a_new, a_fn, a_isi, a_call, asI_i, a_part, a_noPart, a_cut, a_app, a_ext, a_index, a_sub, a_ps0, a_ps1, a_disp, a_lc, a_tt, a_skip, andThen_nx, andThen_rt, andThen_bk, andThen_ct, a_seq, a_expr, a_ret, a_retN, a_brk, a_cnt, a_ifS, a_set, a_aug, a_asg, two_eq, a_par, a_put, a_daug, a_for, a_scoped, frzO_nx, frzO_bk, frzO_ct, frzO_rt, frzS_d, frzS_r, frzE_nil, frzE_none, frzE_some, a_gN, a_gsNil, a_gsCons, a_gTp, asStr_s, a_strI, asRng_i, a_rng1, asRng2_i, a_rng2, chkOf_d, a_seqI, a_cYes, items_tup, items_lst, litems_lst, ditems_tup, ditems_lst, toD_d, dataAll_nil, dataAll_cons, dataAll_mapd, asD_d, v_ii, v_addI, v_addS, v_addT, v_addL, v_neg, v_ltI, v_ltS, v_eq, v_ne, v_inS, v_notInS, v_ixS, v_ixR, v_ixT, v_ixL, v_cutS, v_cutT, v_cutL, v_lenS, v_lenR, v_lenT, v_lenL, v_abs, v_int1, v_listT, v_listL, v_tupleT, v_tupleL, v_isN, v_notN, isN_non, isN_r, isN_bl, isN_int, isN_str, isN_tup, isN_lst, ty_non, ty_bl, ty_int, ty_str, ty_tup, ty_lst, keyOf_i, keyOf_s, gAddI_i, gSubI_i, index_s, idxKind_s, isDat_d, isDat_r, svB_d, svB_r, moB_lst, moB_dk, natAbs10, asL_l, asK_k, itL_l, liL_l, tdL_l, tdL_k, dsL_k, dsL_l, tyL_l, tyL_k, lstAt_r, dkAt_r, items_r, litems_r, toD_r, dkS_r, dkS_tup, dkS_lst, dkS_dk, dkS_str, tyS_r, v_ixRef, v_lenRef, v_cutRef, ditems_r, v_listRef, v_tupleRef, v_eqRef, v_neRef, v_addRR, v_addRL, v_addLR, finO_nx, finO_rt, finO_bk, finO_ct, isTy_int_NoneType, isTy_int_bool, isTy_int_int, isTy_int_str, isTy_int_tuple, isTy_int_list, isTy_int_dict, isTy_bool_NoneType, isTy_bool_bool, isTy_bool_int, isTy_bool_str, isTy_bool_tuple, isTy_bool_list, isTy_bool_dict, isTy_str_NoneType, isTy_str_bool, isTy_str_int, isTy_str_str, isTy_str_tuple, isTy_str_list, isTy_str_dict, isTy_tuple_NoneType, isTy_tuple_bool, isTy_tuple_int, isTy_tuple_str, isTy_tuple_tuple, isTy_tuple_list, isTy_tuple_dict, isTy_list_NoneType, isTy_list_bool, isTy_list_int, isTy_list_str, isTy_list_tuple, isTy_list_list, isTy_list_dict, isTy_dict_NoneType, isTy_dict_bool, isTy_dict_int, isTy_dict_str, isTy_dict_tuple, isTy_dict_list, isTy_dict_dict, eo_non, eo_bl, eo_int, eo_str, eo_tup, eo_lst, ev_nn, ev_ii, ev_bb, ev_ss, ev_tt, ev_ll, ea_nn, ea_nc, ea_cn, ea_cc, ea_mapd, ev_non_bl, ev_non_int, ev_non_str, ev_non_tup, ev_non_lst, ev_bl_non, ev_bl_str, ev_bl_tup, ev_bl_lst, ev_int_non, ev_int_str, ev_int_tup, ev_int_lst, ev_str_non, ev_str_bl, ev_str_int, ev_str_tup, ev_str_lst, ev_tup_non, ev_tup_bl, ev_tup_int, ev_tup_str, ev_tup_lst, ev_lst_non, ev_lst_bl, ev_lst_int, ev_lst_str, ev_lst_tup, wipeE_nil, wipeE_cons, cast_0, cast_1, cast_2, cast_3, cast_4, cast_5, cast_6, cast_7, cast_8, cast_9, cast_10, cast_11, cast_12, keysOf_nil, keysOf_cons, mergeS_nil, mergeS_cons, inR_s, sz_lt, sz_le, leq_nn, leq_nc, leq_cn, leq_cc, key_ss, key_ii, key_is, key_si, findK_nil, findK_cons, mapS_nil, mapS_cons, putS_nil, putS_cons, Option.bind_some, Option.map_some, Option.bind_none, Option.map_none, List.set_cons_zero, List.set_cons_succ, List.set_nil, List.getElem?_cons_zero, List.getElem?_cons_succ, List.length_cons, List.length_nil, List.nil_append, List.cons_append, List.map_cons, List.map_nil, if_true, if_false, Bool.false_eq_true, reduceIte, List.all_cons, List.all_nil, Bool.and_true, Bool.true_and, Bool.and_false, Bool.false_and, Bool.not_true, Bool.not_false, Bool.or_false, Bool.or_true, Bool.false_or, Bool.true_or, and_self, and_true, true_and, Int.toNat_natCast, decide_true, decide_false, List.take_zero, List.take_nil, List.take_succ_cons, List.drop_succ_cons, List.drop_zero, List.drop_nil, List.set_nil, List.replicate_succ, List.replicate_zero, List.foldl_cons, List.foldl_nil, Nat.reduceSub, Nat.reduceAdd, Nat.reduceLT, Nat.reduceLeDiff, Nat.reduceEqDiff, Nat.reduceMul, Int.reduceAdd, Int.reduceSub, Int.reduceMul, Int.reduceLT, Int.reduceLE, Int.reduceNeg, Int.reducePow, Int.reduceToNat, or_true, true_or, or_false, false_or, false_and, and_false, Nat.reducePow, not_true_eq_false, not_false_eq_true, Nat.add_zero, Nat.zero_add, Nat.sub_self, Nat.sub_zero, reduceCtorEq, Option.map_map, Int.reduceEq, Int.reduceNe, Int.reduceMod, Int.reduceDiv, List.append_nil, rngL_zero, at0, at1, at2, pairD]
      cases a with
      | dk => unfold eqOk at h1; cases h1
      | scr => unfold eqOk at h1; cases h1
      | str s =>
        match s with
        | [] => simp -implicitDefEqProofs only [run_bind, run_some, run_none, run_map, a_var, a_c, a_op, a_un, a_chain, tst_b, a_test, a_and, a_or, a_not, a_andV, a_orV, a_notV, a_if, a_nil, a_cons, a_tup, a_lst, a_new, a_fn, a_isi, a_call, asI_i, a_part, a_noPart, a_cut, a_app, a_ext, a_index, a_sub, a_ps0, a_ps1, a_disp, a_lc, a_tt, a_skip, andThen_nx, andThen_rt, andThen_bk, andThen_ct, a_seq, a_expr, a_ret, a_retN, a_brk, a_cnt, a_ifS, a_set, a_aug, a_asg, two_eq, a_par, a_put, a_daug, a_for, a_scoped, frzO_nx, frzO_bk, frzO_ct, frzO_rt, frzS_d, frzS_r, frzE_nil, frzE_none, frzE_some, a_gN, a_gsNil, a_gsCons, a_gTp, asStr_s, a_strI, asRng_i, a_rng1, asRng2_i, a_rng2, chkOf_d, a_seqI, a_cYes, items_tup, items_lst, litems_lst, ditems_tup, ditems_lst, toD_d, dataAll_nil, dataAll_cons, dataAll_mapd, asD_d, v_ii, v_addI, v_addS, v_addT, v_addL, v_neg, v_ltI, v_ltS, v_eq, v_ne, v_inS, v_notInS, v_ixS, v_ixR, v_ixT, v_ixL, v_cutS, v_cutT, v_cutL, v_lenS, v_lenR, v_lenT, v_lenL, v_abs, v_int1, v_listT, v_listL, v_tupleT, v_tupleL, v_isN, v_notN, isN_non, isN_r, isN_bl, isN_int, isN_str, isN_tup, isN_lst, ty_non, ty_bl, ty_int, ty_str, ty_tup, ty_lst, keyOf_i, keyOf_s, gAddI_i, gSubI_i, index_s, idxKind_s, isDat_d, isDat_r, svB_d, svB_r, moB_lst, moB_dk, natAbs10, asL_l, asK_k, itL_l, liL_l, tdL_l, tdL_k, dsL_k, dsL_l, tyL_l, tyL_k, lstAt_r, dkAt_r, items_r, litems_r, toD_r, dkS_r, dkS_tup, dkS_lst, dkS_dk, dkS_str, tyS_r, v_ixRef, v_lenRef, v_cutRef, ditems_r, v_listRef, v_tupleRef, v_eqRef, v_neRef, v_addRR, v_addRL, v_addLR, finO_nx, finO_rt, finO_bk, finO_ct, isTy_int_NoneType, isTy_int_bool, isTy_int_int, isTy_int_str, isTy_int_tuple, isTy_int_list, isTy_int_dict, isTy_bool_NoneType, isTy_bool_bool, isTy_bool_int, isTy_bool_str, isTy_bool_tuple, isTy_bool_list, isTy_bool_dict, isTy_str_NoneType, isTy_str_bool, isTy_str_int, isTy_str_str, isTy_str_tuple, isTy_str_list, isTy_str_dict, isTy_tuple_NoneType, isTy_tuple_bool, isTy_tuple_int, isTy_tuple_str, isTy_tuple_tuple, isTy_tuple_list, isTy_tuple_dict, isTy_list_NoneType, isTy_list_bool, isTy_list_int, isTy_list_str, isTy_list_tuple, isTy_list_list, isTy_list_dict, isTy_dict_NoneType, isTy_dict_bool, isTy_dict_int, isTy_dict_str, isTy_dict_tuple, isTy_dict_list, isTy_dict_dict, eo_non, eo_bl, eo_int, eo_str, eo_tup, eo_lst, ev_nn, ev_ii, ev_bb, ev_ss, ev_tt, ev_ll, ea_nn, ea_nc, ea_cn, ea_cc, ea_mapd, ev_non_bl, ev_non_int, ev_non_str, ev_non_tup, ev_non_lst, ev_bl_non, ev_bl_str, ev_bl_tup, ev_bl_lst, ev_int_non, ev_int_str, ev_int_tup, ev_int_lst, ev_str_non, ev_str_bl, ev_str_int, ev_str_tup, ev_str_lst, ev_tup_non, ev_tup_bl, ev_tup_int, ev_tup_str, ev_tup_lst, ev_lst_non, ev_lst_bl, ev_lst_int, ev_lst_str, ev_lst_tup, wipeE_nil, wipeE_cons, cast_0, cast_1, cast_2, cast_3, cast_4, cast_5, cast_6, cast_7, cast_8, cast_9, cast_10, cast_11, cast_12, keysOf_nil, keysOf_cons, mergeS_nil, mergeS_cons, inR_s, sz_lt, sz_le, leq_nn, leq_nc, leq_cn, leq_cc, key_ss, key_ii, key_is, key_si, findK_nil, findK_cons, mapS_nil, mapS_cons, putS_nil, putS_cons, Option.bind_some, Option.map_some, Option.bind_none, Option.map_none, List.set_cons_zero, List.set_cons_succ, List.set_nil, List.getElem?_cons_zero, List.getElem?_cons_succ, List.length_cons, List.length_nil, List.nil_append, List.cons_append, List.map_cons, List.map_nil, if_true, if_false, Bool.false_eq_true, reduceIte, List.all_cons, List.all_nil, Bool.and_true, Bool.true_and, Bool.and_false, Bool.false_and, Bool.not_true, Bool.not_false, Bool.or_false, Bool.or_true, Bool.false_or, Bool.true_or, and_self, and_true, true_and, Int.toNat_natCast, decide_true, decide_false, List.take_zero, List.take_nil, List.take_succ_cons, List.drop_succ_cons, List.drop_zero, List.drop_nil, List.set_nil, List.replicate_succ, List.replicate_zero, List.foldl_cons, List.foldl_nil, Nat.reduceSub, Nat.reduceAdd, Nat.reduceLT, Nat.reduceLeDiff, Nat.reduceEqDiff, Nat.reduceMul, Int.reduceAdd, Int.reduceSub, Int.reduceMul, Int.reduceLT, Int.reduceLE, Int.reduceNeg, Int.reducePow, Int.reduceToNat, or_true, true_or, or_false, false_or, false_and, and_false, Nat.reducePow, not_true_eq_false, not_false_eq_true, Nat.add_zero, Nat.zero_add, Nat.sub_self, Nat.sub_zero, reduceCtorEq, Option.map_map, Int.reduceEq, Int.reduceNe, Int.reduceMod, Int.reduceDiv, List.append_nil, rngL_zero, at0, at1, at2, letterD]
        | a :: b :: r =>
          have e : ¬ (((r.length + 1 + 1 : Nat) : Int) = 1) := by omega
          simp -implicitDefEqProofs only [run_bind, run_some, run_none, run_map, a_var, a_c, a_op, a_un, a_chain, tst_b, a_test, a_and, a_or, a_not, a_andV, a_orV, a_notV, a_if, a_nil, a_cons, a_tup, a_lst, a_new, a_fn, a_isi, a_call, asI_i, a_part, a_noPart, a_cut, a_app, a_ext, a_index, a_sub, a_ps0, a_ps1, a_disp, a_lc, a_tt, a_skip, andThen_nx, andThen_rt, andThen_bk, andThen_ct, a_seq, a_expr, a_ret, a_retN, a_brk, a_cnt, a_ifS, a_set, a_aug, a_asg, two_eq, a_par, a_put, a_daug, a_for, a_scoped, frzO_nx, frzO_bk, frzO_ct, frzO_rt, frzS_d, frzS_r, frzE_nil, frzE_none, frzE_some, a_gN, a_gsNil, a_gsCons, a_gTp, asStr_s, a_strI, asRng_i, a_rng1, asRng2_i, a_rng2, chkOf_d, a_seqI, a_cYes, items_tup, items_lst, litems_lst, ditems_tup, ditems_lst, toD_d, dataAll_nil, dataAll_cons, dataAll_mapd, asD_d, v_ii, v_addI, v_addS, v_addT, v_addL, v_neg, v_ltI, v_ltS, v_eq, v_ne, v_inS, v_notInS, v_ixS, v_ixR, v_ixT, v_ixL, v_cutS, v_cutT, v_cutL, v_lenS, v_lenR, v_lenT, v_lenL, v_abs, v_int1, v_listT, v_listL, v_tupleT, v_tupleL, v_isN, v_notN, isN_non, isN_r, isN_bl, isN_int, isN_str, isN_tup, isN_lst, ty_non, ty_bl, ty_int, ty_str, ty_tup, ty_lst, keyOf_i, keyOf_s, gAddI_i, gSubI_i, index_s, idxKind_s, isDat_d, isDat_r, svB_d, svB_r, moB_lst, moB_dk, natAbs10, asL_l, asK_k, itL_l, liL_l, tdL_l, tdL_k, dsL_k, dsL_l, tyL_l, tyL_k, lstAt_r, dkAt_r, items_r, litems_r, toD_r, dkS_r, dkS_tup, dkS_lst, dkS_dk, dkS_str, tyS_r, v_ixRef, v_lenRef, v_cutRef, ditems_r, v_listRef, v_tupleRef, v_eqRef, v_neRef, v_addRR, v_addRL, v_addLR, finO_nx, finO_rt, finO_bk, finO_ct, isTy_int_NoneType, isTy_int_bool, isTy_int_int, isTy_int_str, isTy_int_tuple, isTy_int_list, isTy_int_dict, isTy_bool_NoneType, isTy_bool_bool, isTy_bool_int, isTy_bool_str, isTy_bool_tuple, isTy_bool_list, isTy_bool_dict, isTy_str_NoneType, isTy_str_bool, isTy_str_int, isTy_str_str, isTy_str_tuple, isTy_str_list, isTy_str_dict, isTy_tuple_NoneType, isTy_tuple_bool, isTy_tuple_int, isTy_tuple_str, isTy_tuple_tuple, isTy_tuple_list, isTy_tuple_dict, isTy_list_NoneType, isTy_list_bool, isTy_list_int, isTy_list_str, isTy_list_tuple, isTy_list_list, isTy_list_dict, isTy_dict_NoneType, isTy_dict_bool, isTy_dict_int, isTy_dict_str, isTy_dict_tuple, isTy_dict_list, isTy_dict_dict, eo_non, eo_bl, eo_int, eo_str, eo_tup, eo_lst, ev_nn, ev_ii, ev_bb, ev_ss, ev_tt, ev_ll, ea_nn, ea_nc, ea_cn, ea_cc, ea_mapd, ev_non_bl, ev_non_int, ev_non_str, ev_non_tup, ev_non_lst, ev_bl_non, ev_bl_str, ev_bl_tup, ev_bl_lst, ev_int_non, ev_int_str, ev_int_tup, ev_int_lst, ev_str_non, ev_str_bl, ev_str_int, ev_str_tup, ev_str_lst, ev_tup_non, ev_tup_bl, ev_tup_int, ev_tup_str, ev_tup_lst, ev_lst_non, ev_lst_bl, ev_lst_int, ev_lst_str, ev_lst_tup, wipeE_nil, wipeE_cons, cast_0, cast_1, cast_2, cast_3, cast_4, cast_5, cast_6, cast_7, cast_8, cast_9, cast_10, cast_11, cast_12, keysOf_nil, keysOf_cons, mergeS_nil, mergeS_cons, inR_s, sz_lt, sz_le, leq_nn, leq_nc, leq_cn, leq_cc, key_ss, key_ii, key_is, key_si, findK_nil, findK_cons, mapS_nil, mapS_cons, putS_nil, putS_cons, Option.bind_some, Option.map_some, Option.bind_none, Option.map_none, List.set_cons_zero, List.set_cons_succ, List.set_nil, List.getElem?_cons_zero, List.getElem?_cons_succ, List.length_cons, List.length_nil, List.nil_append, List.cons_append, List.map_cons, List.map_nil, if_true, if_false, Bool.false_eq_true, reduceIte, List.all_cons, List.all_nil, Bool.and_true, Bool.true_and, Bool.and_false, Bool.false_and, Bool.not_true, Bool.not_false, Bool.or_false, Bool.or_true, Bool.false_or, Bool.true_or, and_self, and_true, true_and, Int.toNat_natCast, decide_true, decide_false, List.take_zero, List.take_nil, List.take_succ_cons, List.drop_succ_cons, List.drop_zero, List.drop_nil, List.set_nil, List.replicate_succ, List.replicate_zero, List.foldl_cons, List.foldl_nil, Nat.reduceSub, Nat.reduceAdd, Nat.reduceLT, Nat.reduceLeDiff, Nat.reduceEqDiff, Nat.reduceMul, Int.reduceAdd, Int.reduceSub, Int.reduceMul, Int.reduceLT, Int.reduceLE, Int.reduceNeg, Int.reducePow, Int.reduceToNat, or_true, true_or, or_false, false_or, false_and, and_false, Nat.reducePow, not_true_eq_false, not_false_eq_true, Nat.add_zero, Nat.zero_add, Nat.sub_self, Nat.sub_zero, reduceCtorEq, Option.map_map, Int.reduceEq, Int.reduceNe, Int.reduceMod, Int.reduceDiv, List.append_nil, rngL_zero, at0, at1, at2, letterD, decide_eq_false e]
        | [c] =>
          simp -implicitDefEqProofs only [run_bind, run_some, run_none, run_map, a_var, a_c, a_op, a_un, a_chain, tst_b, a_test, a_and, a_or, a_not, a_andV, a_orV, a_notV, a_if, a_nil, a_cons, a_tup, a_lst, a_new, a_fn, a_isi, a_call, asI_i, a_part, a_noPart, a_cut, a_app, a_ext, a_index, a_sub, a_ps0, a_ps1, a_disp, a_lc, a_tt, a_skip, andThen_nx, andThen_rt, andThen_bk, andThen_ct, a_seq, a_expr, a_ret, a_retN, a_brk, a_cnt, a_ifS, a_set, a_aug, a_asg, two_eq, a_par, a_put, a_daug, a_for, a_scoped, frzO_nx, frzO_bk, frzO_ct, frzO_rt, frzS_d, frzS_r, frzE_nil, frzE_none, frzE_some, a_gN, a_gsNil, a_gsCons, a_gTp, asStr_s, a_strI, asRng_i, a_rng1, asRng2_i, a_rng2, chkOf_d, a_seqI, a_cYes, items_tup, items_lst, litems_lst, ditems_tup, ditems_lst, toD_d, dataAll_nil, dataAll_cons, dataAll_mapd, asD_d, v_ii, v_addI, v_addS, v_addT, v_addL, v_neg, v_ltI, v_ltS, v_eq, v_ne, v_inS, v_notInS, v_ixS, v_ixR, v_ixT, v_ixL, v_cutS, v_cutT, v_cutL, v_lenS, v_lenR, v_lenT, v_lenL, v_abs, v_int1, v_listT, v_listL, v_tupleT, v_tupleL, v_isN, v_notN, isN_non, isN_r, isN_bl, isN_int, isN_str, isN_tup, isN_lst, ty_non, ty_bl, ty_int, ty_str, ty_tup, ty_lst, keyOf_i, keyOf_s, gAddI_i, gSubI_i, index_s, idxKind_s, isDat_d, isDat_r, svB_d, svB_r, moB_lst, moB_dk, natAbs10, asL_l, asK_k, itL_l, liL_l, tdL_l, tdL_k, dsL_k, dsL_l, tyL_l, tyL_k, lstAt_r, dkAt_r, items_r, litems_r, toD_r, dkS_r, dkS_tup, dkS_lst, dkS_dk, dkS_str, tyS_r, v_ixRef, v_lenRef, v_cutRef, ditems_r, v_listRef, v_tupleRef, v_eqRef, v_neRef, v_addRR, v_addRL, v_addLR, finO_nx, finO_rt, finO_bk, finO_ct, isTy_int_NoneType, isTy_int_bool, isTy_int_int, isTy_int_str, isTy_int_tuple, isTy_int_list, isTy_int_dict, isTy_bool_NoneType, isTy_bool_bool, isTy_bool_int, isTy_bool_str, isTy_bool_tuple, isTy_bool_list, isTy_bool_dict, isTy_str_NoneType, isTy_str_bool, isTy_str_int, isTy_str_str, isTy_str_tuple, isTy_str_list, isTy_str_dict, isTy_tuple_NoneType, isTy_tuple_bool, isTy_tuple_int, isTy_tuple_str, isTy_tuple_tuple, isTy_tuple_list, isTy_tuple_dict, isTy_list_NoneType, isTy_list_bool, isTy_list_int, isTy_list_str, isTy_list_tuple, isTy_list_list, isTy_list_dict, isTy_dict_NoneType, isTy_dict_bool, isTy_dict_int, isTy_dict_str, isTy_dict_tuple, isTy_dict_list, isTy_dict_dict, eo_non, eo_bl, eo_int, eo_str, eo_tup, eo_lst, ev_nn, ev_ii, ev_bb, ev_ss, ev_tt, ev_ll, ea_nn, ea_nc, ea_cn, ea_cc, ea_mapd, ev_non_bl, ev_non_int, ev_non_str, ev_non_tup, ev_non_lst, ev_bl_non, ev_bl_str, ev_bl_tup, ev_bl_lst, ev_int_non, ev_int_str, ev_int_tup, ev_int_lst, ev_str_non, ev_str_bl, ev_str_int, ev_str_tup, ev_str_lst, ev_tup_non, ev_tup_bl, ev_tup_int, ev_tup_str, ev_tup_lst, ev_lst_non, ev_lst_bl, ev_lst_int, ev_lst_str, ev_lst_tup, wipeE_nil, wipeE_cons, cast_0, cast_1, cast_2, cast_3, cast_4, cast_5, cast_6, cast_7, cast_8, cast_9, cast_10, cast_11, cast_12, keysOf_nil, keysOf_cons, mergeS_nil, mergeS_cons, inR_s, sz_lt, sz_le, leq_nn, leq_nc, leq_cn, leq_cc, key_ss, key_ii, key_is, key_si, findK_nil, findK_cons, mapS_nil, mapS_cons, putS_nil, putS_cons, Option.bind_some, Option.map_some, Option.bind_none, Option.map_none, List.set_cons_zero, List.set_cons_succ, List.set_nil, List.getElem?_cons_zero, List.getElem?_cons_succ, List.length_cons, List.length_nil, List.nil_append, List.cons_append, List.map_cons, List.map_nil, if_true, if_false, Bool.false_eq_true, reduceIte, List.all_cons, List.all_nil, Bool.and_true, Bool.true_and, Bool.and_false, Bool.false_and, Bool.not_true, Bool.not_false, Bool.or_false, Bool.or_true, Bool.false_or, Bool.true_or, and_self, and_true, true_and, Int.toNat_natCast, decide_true, decide_false, List.take_zero, List.take_nil, List.take_succ_cons, List.drop_succ_cons, List.drop_zero, List.drop_nil, List.set_nil, List.replicate_succ, List.replicate_zero, List.foldl_cons, List.foldl_nil, Nat.reduceSub, Nat.reduceAdd, Nat.reduceLT, Nat.reduceLeDiff, Nat.reduceEqDiff, Nat.reduceMul, Int.reduceAdd, Int.reduceSub, Int.reduceMul, Int.reduceLT, Int.reduceLE, Int.reduceNeg, Int.reducePow, Int.reduceToNat, or_true, true_or, or_false, false_or, false_and, and_false, Nat.reducePow, not_true_eq_false, not_false_eq_true, Nat.add_zero, Nat.zero_add, Nat.sub_self, Nat.sub_zero, reduceCtorEq, Option.map_map, Int.reduceEq, Int.reduceNe, Int.reduceMod, Int.reduceDiv, List.append_nil, rngL_zero, at0, at1, at2, letterD]
          by_cases hc : c ∈ az
          · simp -implicitDefEqProofs only [run_bind, run_some, run_none, run_map, a_var, a_c, a_op, a_un, a_chain, tst_b, a_test, a_and, a_or, a_not, a_andV, a_orV, a_notV, a_if, a_nil, a_cons, a_tup, a_lst, a_new, a_fn, a_isi, a_call, asI_i, a_part, a_noPart, a_cut, a_app, a_ext, a_index, a_sub, a_ps0, a_ps1, a_disp, a_lc, a_tt, a_skip, andThen_nx, andThen_rt, andThen_bk, andThen_ct, a_seq, a_expr, a_ret, a_retN, a_brk, a_cnt, a_ifS, a_set, a_aug, a_asg, two_eq, a_par, a_put, a_daug, a_for, a_scoped, frzO_nx, frzO_bk, frzO_ct, frzO_rt, frzS_d, frzS_r, frzE_nil, frzE_none, frzE_some, a_gN, a_gsNil, a_gsCons, a_gTp, asStr_s, a_strI, asRng_i, a_rng1, asRng2_i, a_rng2, chkOf_d, a_seqI, a_cYes, items_tup, items_lst, litems_lst, ditems_tup, ditems_lst, toD_d, dataAll_nil, dataAll_cons, dataAll_mapd, asD_d, v_ii, v_addI, v_addS, v_addT, v_addL, v_neg, v_ltI, v_ltS, v_eq, v_ne, v_inS, v_notInS, v_ixS, v_ixR, v_ixT, v_ixL, v_cutS, v_cutT, v_cutL, v_lenS, v_lenR, v_lenT, v_lenL, v_abs, v_int1, v_listT, v_listL, v_tupleT, v_tupleL, v_isN, v_notN, isN_non, isN_r, isN_bl, isN_int, isN_str, isN_tup, isN_lst, ty_non, ty_bl, ty_int, ty_str, ty_tup, ty_lst, keyOf_i, keyOf_s, gAddI_i, gSubI_i, index_s, idxKind_s, isDat_d, isDat_r, svB_d, svB_r, moB_lst, moB_dk, natAbs10, asL_l, asK_k, itL_l, liL_l, tdL_l, tdL_k, dsL_k, dsL_l, tyL_l, tyL_k, lstAt_r, dkAt_r, items_r, litems_r, toD_r, dkS_r, dkS_tup, dkS_lst, dkS_dk, dkS_str, tyS_r, v_ixRef, v_lenRef, v_cutRef, ditems_r, v_listRef, v_tupleRef, v_eqRef, v_neRef, v_addRR, v_addRL, v_addLR, finO_nx, finO_rt, finO_bk, finO_ct, isTy_int_NoneType, isTy_int_bool, isTy_int_int, isTy_int_str, isTy_int_tuple, isTy_int_list, isTy_int_dict, isTy_bool_NoneType, isTy_bool_bool, isTy_bool_int, isTy_bool_str, isTy_bool_tuple, isTy_bool_list, isTy_bool_dict, isTy_str_NoneType, isTy_str_bool, isTy_str_int, isTy_str_str, isTy_str_tuple, isTy_str_list, isTy_str_dict, isTy_tuple_NoneType, isTy_tuple_bool, isTy_tuple_int, isTy_tuple_str, isTy_tuple_tuple, isTy_tuple_list, isTy_tuple_dict, isTy_list_NoneType, isTy_list_bool, isTy_list_int, isTy_list_str, isTy_list_tuple, isTy_list_list, isTy_list_dict, isTy_dict_NoneType, isTy_dict_bool, isTy_dict_int, isTy_dict_str, isTy_dict_tuple, isTy_dict_list, isTy_dict_dict, eo_non, eo_bl, eo_int, eo_str, eo_tup, eo_lst, ev_nn, ev_ii, ev_bb, ev_ss, ev_tt, ev_ll, ea_nn, ea_nc, ea_cn, ea_cc, ea_mapd, ev_non_bl, ev_non_int, ev_non_str, ev_non_tup, ev_non_lst, ev_bl_non, ev_bl_str, ev_bl_tup, ev_bl_lst, ev_int_non, ev_int_str, ev_int_tup, ev_int_lst, ev_str_non, ev_str_bl, ev_str_int, ev_str_tup, ev_str_lst, ev_tup_non, ev_tup_bl, ev_tup_int, ev_tup_str, ev_tup_lst, ev_lst_non, ev_lst_bl, ev_lst_int, ev_lst_str, ev_lst_tup, wipeE_nil, wipeE_cons, cast_0, cast_1, cast_2, cast_3, cast_4, cast_5, cast_6, cast_7, cast_8, cast_9, cast_10, cast_11, cast_12, keysOf_nil, keysOf_cons, mergeS_nil, mergeS_cons, inR_s, sz_lt, sz_le, leq_nn, leq_nc, leq_cn, leq_cc, key_ss, key_ii, key_is, key_si, findK_nil, findK_cons, mapS_nil, mapS_cons, putS_nil, putS_cons, Option.bind_some, Option.map_some, Option.bind_none, Option.map_none, List.set_cons_zero, List.set_cons_succ, List.set_nil, List.getElem?_cons_zero, List.getElem?_cons_succ, List.length_cons, List.length_nil, List.nil_append, List.cons_append, List.map_cons, List.map_nil, if_true, if_false, Bool.false_eq_true, reduceIte, List.all_cons, List.all_nil, Bool.and_true, Bool.true_and, Bool.and_false, Bool.false_and, Bool.not_true, Bool.not_false, Bool.or_false, Bool.or_true, Bool.false_or, Bool.true_or, and_self, and_true, true_and, Int.toNat_natCast, decide_true, decide_false, List.take_zero, List.take_nil, List.take_succ_cons, List.drop_succ_cons, List.drop_zero, List.drop_nil, List.set_nil, List.replicate_succ, List.replicate_zero, List.foldl_cons, List.foldl_nil, Nat.reduceSub, Nat.reduceAdd, Nat.reduceLT, Nat.reduceLeDiff, Nat.reduceEqDiff, Nat.reduceMul, Int.reduceAdd, Int.reduceSub, Int.reduceMul, Int.reduceLT, Int.reduceLE, Int.reduceNeg, Int.reducePow, Int.reduceToNat, or_true, true_or, or_false, false_or, false_and, and_false, Nat.reducePow, not_true_eq_false, not_false_eq_true, Nat.add_zero, Nat.zero_add, Nat.sub_self, Nat.sub_zero, reduceCtorEq, Option.map_map, Int.reduceEq, Int.reduceNe, Int.reduceMod, Int.reduceDiv, List.append_nil, rngL_zero, at0, at1, at2, hc]
            cases b with
            | dk => unfold eqOk at h2; cases h2
            | scr => unfold eqOk at h2; cases h2
            | int q =>
              simp -implicitDefEqProofs only [run_bind, run_some, run_none, run_map, a_var, a_c, a_op, a_un, a_chain, tst_b, a_test, a_and, a_or, a_not, a_andV, a_orV, a_notV, a_if, a_nil, a_cons, a_tup, a_lst, a_new, a_fn, a_isi, a_call, asI_i, a_part, a_noPart, a_cut, a_app, a_ext, a_index, a_sub, a_ps0, a_ps1, a_disp, a_lc, a_tt, a_skip, andThen_nx, andThen_rt, andThen_bk, andThen_ct, a_seq, a_expr, a_ret, a_retN, a_brk, a_cnt, a_ifS, a_set, a_aug, a_asg, two_eq, a_par, a_put, a_daug, a_for, a_scoped, frzO_nx, frzO_bk, frzO_ct, frzO_rt, frzS_d, frzS_r, frzE_nil, frzE_none, frzE_some, a_gN, a_gsNil, a_gsCons, a_gTp, asStr_s, a_strI, asRng_i, a_rng1, asRng2_i, a_rng2, chkOf_d, a_seqI, a_cYes, items_tup, items_lst, litems_lst, ditems_tup, ditems_lst, toD_d, dataAll_nil, dataAll_cons, dataAll_mapd, asD_d, v_ii, v_addI, v_addS, v_addT, v_addL, v_neg, v_ltI, v_ltS, v_eq, v_ne, v_inS, v_notInS, v_ixS, v_ixR, v_ixT, v_ixL, v_cutS, v_cutT, v_cutL, v_lenS, v_lenR, v_lenT, v_lenL, v_abs, v_int1, v_listT, v_listL, v_tupleT, v_tupleL, v_isN, v_notN, isN_non, isN_r, isN_bl, isN_int, isN_str, isN_tup, isN_lst, ty_non, ty_bl, ty_int, ty_str, ty_tup, ty_lst, keyOf_i, keyOf_s, gAddI_i, gSubI_i, index_s, idxKind_s, isDat_d, isDat_r, svB_d, svB_r, moB_lst, moB_dk, natAbs10, asL_l, asK_k, itL_l, liL_l, tdL_l, tdL_k, dsL_k, dsL_l, tyL_l, tyL_k, lstAt_r, dkAt_r, items_r, litems_r, toD_r, dkS_r, dkS_tup, dkS_lst, dkS_dk, dkS_str, tyS_r, v_ixRef, v_lenRef, v_cutRef, ditems_r, v_listRef, v_tupleRef, v_eqRef, v_neRef, v_addRR, v_addRL, v_addLR, finO_nx, finO_rt, finO_bk, finO_ct, isTy_int_NoneType, isTy_int_bool, isTy_int_int, isTy_int_str, isTy_int_tuple, isTy_int_list, isTy_int_dict, isTy_bool_NoneType, isTy_bool_bool, isTy_bool_int, isTy_bool_str, isTy_bool_tuple, isTy_bool_list, isTy_bool_dict, isTy_str_NoneType, isTy_str_bool, isTy_str_int, isTy_str_str, isTy_str_tuple, isTy_str_list, isTy_str_dict, isTy_tuple_NoneType, isTy_tuple_bool, isTy_tuple_int, isTy_tuple_str, isTy_tuple_tuple, isTy_tuple_list, isTy_tuple_dict, isTy_list_NoneType, isTy_list_bool, isTy_list_int, isTy_list_str, isTy_list_tuple, isTy_list_list, isTy_list_dict, isTy_dict_NoneType, isTy_dict_bool, isTy_dict_int, isTy_dict_str, isTy_dict_tuple, isTy_dict_list, isTy_dict_dict, eo_non, eo_bl, eo_int, eo_str, eo_tup, eo_lst, ev_nn, ev_ii, ev_bb, ev_ss, ev_tt, ev_ll, ea_nn, ea_nc, ea_cn, ea_cc, ea_mapd, ev_non_bl, ev_non_int, ev_non_str, ev_non_tup, ev_non_lst, ev_bl_non, ev_bl_str, ev_bl_tup, ev_bl_lst, ev_int_non, ev_int_str, ev_int_tup, ev_int_lst, ev_str_non, ev_str_bl, ev_str_int, ev_str_tup, ev_str_lst, ev_tup_non, ev_tup_bl, ev_tup_int, ev_tup_str, ev_tup_lst, ev_lst_non, ev_lst_bl, ev_lst_int, ev_lst_str, ev_lst_tup, wipeE_nil, wipeE_cons, cast_0, cast_1, cast_2, cast_3, cast_4, cast_5, cast_6, cast_7, cast_8, cast_9, cast_10, cast_11, cast_12, keysOf_nil, keysOf_cons, mergeS_nil, mergeS_cons, inR_s, sz_lt, sz_le, leq_nn, leq_nc, leq_cn, leq_cc, key_ss, key_ii, key_is, key_si, findK_nil, findK_cons, mapS_nil, mapS_cons, putS_nil, putS_cons, Option.bind_some, Option.map_some, Option.bind_none, Option.map_none, List.set_cons_zero, List.set_cons_succ, List.set_nil, List.getElem?_cons_zero, List.getElem?_cons_succ, List.length_cons, List.length_nil, List.nil_append, List.cons_append, List.map_cons, List.map_nil, if_true, if_false, Bool.false_eq_true, reduceIte, List.all_cons, List.all_nil, Bool.and_true, Bool.true_and, Bool.and_false, Bool.false_and, Bool.not_true, Bool.not_false, Bool.or_false, Bool.or_true, Bool.false_or, Bool.true_or, and_self, and_true, true_and, Int.toNat_natCast, decide_true, decide_false, List.take_zero, List.take_nil, List.take_succ_cons, List.drop_succ_cons, List.drop_zero, List.drop_nil, List.set_nil, List.replicate_succ, List.replicate_zero, List.foldl_cons, List.foldl_nil, Nat.reduceSub, Nat.reduceAdd, Nat.reduceLT, Nat.reduceLeDiff, Nat.reduceEqDiff, Nat.reduceMul, Int.reduceAdd, Int.reduceSub, Int.reduceMul, Int.reduceLT, Int.reduceLE, Int.reduceNeg, Int.reducePow, Int.reduceToNat, or_true, true_or, or_false, false_or, false_and, and_false, Nat.reducePow, not_true_eq_false, not_false_eq_true, Nat.add_zero, Nat.zero_add, Nat.sub_self, Nat.sub_zero, reduceCtorEq, Option.map_map, Int.reduceEq, Int.reduceNe, Int.reduceMod, Int.reduceDiv, List.append_nil, rngL_zero, at0, at1, at2, belowD]
              by_cases h1 : 0 ≤ q <;> simp [h1]
            | _ => simp -implicitDefEqProofs only [run_bind, run_some, run_none, run_map, a_var, a_c, a_op, a_un, a_chain, tst_b, a_test, a_and, a_or, a_not, a_andV, a_orV, a_notV, a_if, a_nil, a_cons, a_tup, a_lst, a_new, a_fn, a_isi, a_call, asI_i, a_part, a_noPart, a_cut, a_app, a_ext, a_index, a_sub, a_ps0, a_ps1, a_disp, a_lc, a_tt, a_skip, andThen_nx, andThen_rt, andThen_bk, andThen_ct, a_seq, a_expr, a_ret, a_retN, a_brk, a_cnt, a_ifS, a_set, a_aug, a_asg, two_eq, a_par, a_put, a_daug, a_for, a_scoped, frzO_nx, frzO_bk, frzO_ct, frzO_rt, frzS_d, frzS_r, frzE_nil, frzE_none, frzE_some, a_gN, a_gsNil, a_gsCons, a_gTp, asStr_s, a_strI, asRng_i, a_rng1, asRng2_i, a_rng2, chkOf_d, a_seqI, a_cYes, items_tup, items_lst, litems_lst, ditems_tup, ditems_lst, toD_d, dataAll_nil, dataAll_cons, dataAll_mapd, asD_d, v_ii, v_addI, v_addS, v_addT, v_addL, v_neg, v_ltI, v_ltS, v_eq, v_ne, v_inS, v_notInS, v_ixS, v_ixR, v_ixT, v_ixL, v_cutS, v_cutT, v_cutL, v_lenS, v_lenR, v_lenT, v_lenL, v_abs, v_int1, v_listT, v_listL, v_tupleT, v_tupleL, v_isN, v_notN, isN_non, isN_r, isN_bl, isN_int, isN_str, isN_tup, isN_lst, ty_non, ty_bl, ty_int, ty_str, ty_tup, ty_lst, keyOf_i, keyOf_s, gAddI_i, gSubI_i, index_s, idxKind_s, isDat_d, isDat_r, svB_d, svB_r, moB_lst, moB_dk, natAbs10, asL_l, asK_k, itL_l, liL_l, tdL_l, tdL_k, dsL_k, dsL_l, tyL_l, tyL_k, lstAt_r, dkAt_r, items_r, litems_r, toD_r, dkS_r, dkS_tup, dkS_lst, dkS_dk, dkS_str, tyS_r, v_ixRef, v_lenRef, v_cutRef, ditems_r, v_listRef, v_tupleRef, v_eqRef, v_neRef, v_addRR, v_addRL, v_addLR, finO_nx, finO_rt, finO_bk, finO_ct, isTy_int_NoneType, isTy_int_bool, isTy_int_int, isTy_int_str, isTy_int_tuple, isTy_int_list, isTy_int_dict, isTy_bool_NoneType, isTy_bool_bool, isTy_bool_int, isTy_bool_str, isTy_bool_tuple, isTy_bool_list, isTy_bool_dict, isTy_str_NoneType, isTy_str_bool, isTy_str_int, isTy_str_str, isTy_str_tuple, isTy_str_list, isTy_str_dict, isTy_tuple_NoneType, isTy_tuple_bool, isTy_tuple_int, isTy_tuple_str, isTy_tuple_tuple, isTy_tuple_list, isTy_tuple_dict, isTy_list_NoneType, isTy_list_bool, isTy_list_int, isTy_list_str, isTy_list_tuple, isTy_list_list, isTy_list_dict, isTy_dict_NoneType, isTy_dict_bool, isTy_dict_int, isTy_dict_str, isTy_dict_tuple, isTy_dict_list, isTy_dict_dict, eo_non, eo_bl, eo_int, eo_str, eo_tup, eo_lst, ev_nn, ev_ii, ev_bb, ev_ss, ev_tt, ev_ll, ea_nn, ea_nc, ea_cn, ea_cc, ea_mapd, ev_non_bl, ev_non_int, ev_non_str, ev_non_tup, ev_non_lst, ev_bl_non, ev_bl_str, ev_bl_tup, ev_bl_lst, ev_int_non, ev_int_str, ev_int_tup, ev_int_lst, ev_str_non, ev_str_bl, ev_str_int, ev_str_tup, ev_str_lst, ev_tup_non, ev_tup_bl, ev_tup_int, ev_tup_str, ev_tup_lst, ev_lst_non, ev_lst_bl, ev_lst_int, ev_lst_str, ev_lst_tup, wipeE_nil, wipeE_cons, cast_0, cast_1, cast_2, cast_3, cast_4, cast_5, cast_6, cast_7, cast_8, cast_9, cast_10, cast_11, cast_12, keysOf_nil, keysOf_cons, mergeS_nil, mergeS_cons, inR_s, sz_lt, sz_le, leq_nn, leq_nc, leq_cn, leq_cc, key_ss, key_ii, key_is, key_si, findK_nil, findK_cons, mapS_nil, mapS_cons, putS_nil, putS_cons, Option.bind_some, Option.map_some, Option.bind_none, Option.map_none, List.set_cons_zero, List.set_cons_succ, List.set_nil, List.getElem?_cons_zero, List.getElem?_cons_succ, List.length_cons, List.length_nil, List.nil_append, List.cons_append, List.map_cons, List.map_nil, if_true, if_false, Bool.false_eq_true, reduceIte, List.all_cons, List.all_nil, Bool.and_true, Bool.true_and, Bool.and_false, Bool.false_and, Bool.not_true, Bool.not_false, Bool.or_false, Bool.or_true, Bool.false_or, Bool.true_or, and_self, and_true, true_and, Int.toNat_natCast, decide_true, decide_false, List.take_zero, List.take_nil, List.take_succ_cons, List.drop_succ_cons, List.drop_zero, List.drop_nil, List.set_nil, List.replicate_succ, List.replicate_zero, List.foldl_cons, List.foldl_nil, Nat.reduceSub, Nat.reduceAdd, Nat.reduceLT, Nat.reduceLeDiff, Nat.reduceEqDiff, Nat.reduceMul, Int.reduceAdd, Int.reduceSub, Int.reduceMul, Int.reduceLT, Int.reduceLE, Int.reduceNeg, Int.reducePow, Int.reduceToNat, or_true, true_or, or_false, false_or, false_and, and_false, Nat.reducePow, not_true_eq_false, not_false_eq_true, Nat.add_zero, Nat.zero_add, Nat.sub_self, Nat.sub_zero, reduceCtorEq, Option.map_map, Int.reduceEq, Int.reduceNe, Int.reduceMod, Int.reduceDiv, List.append_nil, rngL_zero, at0, at1, at2, belowD]
          · simp -implicitDefEqProofs only [run_bind, run_some, run_none, run_map, a_var, a_c, a_op, a_un, a_chain, tst_b, a_test, a_and, a_or, a_not, a_andV, a_orV, a_notV, a_if, a_nil, a_cons, a_tup, a_lst, a_new, a_fn, a_isi, a_call, asI_i, a_part, a_noPart, a_cut, a_app, a_ext, a_index, a_sub, a_ps0, a_ps1, a_disp, a_lc, a_tt, a_skip, andThen_nx, andThen_rt, andThen_bk, andThen_ct, a_seq, a_expr, a_ret, a_retN, a_brk, a_cnt, a_ifS, a_set, a_aug, a_asg, two_eq, a_par, a_put, a_daug, a_for, a_scoped, frzO_nx, frzO_bk, frzO_ct, frzO_rt, frzS_d, frzS_r, frzE_nil, frzE_none, frzE_some, a_gN, a_gsNil, a_gsCons, a_gTp, asStr_s, a_strI, asRng_i, a_rng1, asRng2_i, a_rng2, chkOf_d, a_seqI, a_cYes, items_tup, items_lst, litems_lst, ditems_tup, ditems_lst, toD_d, dataAll_nil, dataAll_cons, dataAll_mapd, asD_d, v_ii, v_addI, v_addS, v_addT, v_addL, v_neg, v_ltI, v_ltS, v_eq, v_ne, v_inS, v_notInS, v_ixS, v_ixR, v_ixT, v_ixL, v_cutS, v_cutT, v_cutL, v_lenS, v_lenR, v_lenT, v_lenL, v_abs, v_int1, v_listT, v_listL, v_tupleT, v_tupleL, v_isN, v_notN, isN_non, isN_r, isN_bl, isN_int, isN_str, isN_tup, isN_lst, ty_non, ty_bl, ty_int, ty_str, ty_tup, ty_lst, keyOf_i, keyOf_s, gAddI_i, gSubI_i, index_s, idxKind_s, isDat_d, isDat_r, svB_d, svB_r, moB_lst, moB_dk, natAbs10, asL_l, asK_k, itL_l, liL_l, tdL_l, tdL_k, dsL_k, dsL_l, tyL_l, tyL_k, lstAt_r, dkAt_r, items_r, litems_r, toD_r, dkS_r, dkS_tup, dkS_lst, dkS_dk, dkS_str, tyS_r, v_ixRef, v_lenRef, v_cutRef, ditems_r, v_listRef, v_tupleRef, v_eqRef, v_neRef, v_addRR, v_addRL, v_addLR, finO_nx, finO_rt, finO_bk, finO_ct, isTy_int_NoneType, isTy_int_bool, isTy_int_int, isTy_int_str, isTy_int_tuple, isTy_int_list, isTy_int_dict, isTy_bool_NoneType, isTy_bool_bool, isTy_bool_int, isTy_bool_str, isTy_bool_tuple, isTy_bool_list, isTy_bool_dict, isTy_str_NoneType, isTy_str_bool, isTy_str_int, isTy_str_str, isTy_str_tuple, isTy_str_list, isTy_str_dict, isTy_tuple_NoneType, isTy_tuple_bool, isTy_tuple_int, isTy_tuple_str, isTy_tuple_tuple, isTy_tuple_list, isTy_tuple_dict, isTy_list_NoneType, isTy_list_bool, isTy_list_int, isTy_list_str, isTy_list_tuple, isTy_list_list, isTy_list_dict, isTy_dict_NoneType, isTy_dict_bool, isTy_dict_int, isTy_dict_str, isTy_dict_tuple, isTy_dict_list, isTy_dict_dict, eo_non, eo_bl, eo_int, eo_str, eo_tup, eo_lst, ev_nn, ev_ii, ev_bb, ev_ss, ev_tt, ev_ll, ea_nn, ea_nc, ea_cn, ea_cc, ea_mapd, ev_non_bl, ev_non_int, ev_non_str, ev_non_tup, ev_non_lst, ev_bl_non, ev_bl_str, ev_bl_tup, ev_bl_lst, ev_int_non, ev_int_str, ev_int_tup, ev_int_lst, ev_str_non, ev_str_bl, ev_str_int, ev_str_tup, ev_str_lst, ev_tup_non, ev_tup_bl, ev_tup_int, ev_tup_str, ev_tup_lst, ev_lst_non, ev_lst_bl, ev_lst_int, ev_lst_str, ev_lst_tup, wipeE_nil, wipeE_cons, cast_0, cast_1, cast_2, cast_3, cast_4, cast_5, cast_6, cast_7, cast_8, cast_9, cast_10, cast_11, cast_12, keysOf_nil, keysOf_cons, mergeS_nil, mergeS_cons, inR_s, sz_lt, sz_le, leq_nn, leq_nc, leq_cn, leq_cc, key_ss, key_ii, key_is, key_si, findK_nil, findK_cons, mapS_nil, mapS_cons, putS_nil, putS_cons, Option.bind_some, Option.map_some, Option.bind_none, Option.map_none, List.set_cons_zero, List.set_cons_succ, List.set_nil, List.getElem?_cons_zero, List.getElem?_cons_succ, List.length_cons, List.length_nil, List.nil_append, List.cons_append, List.map_cons, List.map_nil, if_true, if_false, Bool.false_eq_true, reduceIte, List.all_cons, List.all_nil, Bool.and_true, Bool.true_and, Bool.and_false, Bool.false_and, Bool.not_true, Bool.not_false, Bool.or_false, Bool.or_true, Bool.false_or, Bool.true_or, and_self, and_true, true_and, Int.toNat_natCast, decide_true, decide_false, List.take_zero, List.take_nil, List.take_succ_cons, List.drop_succ_cons, List.drop_zero, List.drop_nil, List.set_nil, List.replicate_succ, List.replicate_zero, List.foldl_cons, List.foldl_nil, Nat.reduceSub, Nat.reduceAdd, Nat.reduceLT, Nat.reduceLeDiff, Nat.reduceEqDiff, Nat.reduceMul, Int.reduceAdd, Int.reduceSub, Int.reduceMul, Int.reduceLT, Int.reduceLE, Int.reduceNeg, Int.reducePow, Int.reduceToNat, or_true, true_or, or_false, false_or, false_and, and_false, Nat.reducePow, not_true_eq_false, not_false_eq_true, Nat.add_zero, Nat.zero_add, Nat.sub_self, Nat.sub_zero, reduceCtorEq, Option.map_map, Int.reduceEq, Int.reduceNe, Int.reduceMod, Int.reduceDiv, List.append_nil, rngL_zero, at0, at1, at2, hc]
      | _ => simp -implicitDefEqProofs only [run_bind, run_some, run_none, run_map, a_var, a_c, a_op, a_un, a_chain, tst_b, a_test, a_and, a_or, a_not, a_andV, a_orV, a_notV, a_if, a_nil, a_cons, a_tup, a_lst, a_new, a_fn, a_isi, a_call, asI_i, a_part, a_noPart, a_cut, a_app, a_ext, a_index, a_sub, a_ps0, a_ps1, a_disp, a_lc, a_tt, a_skip, andThen_nx, andThen_rt, andThen_bk, andThen_ct, a_seq, a_expr, a_ret, a_retN, a_brk, a_cnt, a_ifS, a_set, a_aug, a_asg, two_eq, a_par, a_put, a_daug, a_for, a_scoped, frzO_nx, frzO_bk, frzO_ct, frzO_rt, frzS_d, frzS_r, frzE_nil, frzE_none, frzE_some, a_gN, a_gsNil, a_gsCons, a_gTp, asStr_s, a_strI, asRng_i, a_rng1, asRng2_i, a_rng2, chkOf_d, a_seqI, a_cYes, items_tup, items_lst, litems_lst, ditems_tup, ditems_lst, toD_d, dataAll_nil, dataAll_cons, dataAll_mapd, asD_d, v_ii, v_addI, v_addS, v_addT, v_addL, v_neg, v_ltI, v_ltS, v_eq, v_ne, v_inS, v_notInS, v_ixS, v_ixR, v_ixT, v_ixL, v_cutS, v_cutT, v_cutL, v_lenS, v_lenR, v_lenT, v_lenL, v_abs, v_int1, v_listT, v_listL, v_tupleT, v_tupleL, v_isN, v_notN, isN_non, isN_r, isN_bl, isN_int, isN_str, isN_tup, isN_lst, ty_non, ty_bl, ty_int, ty_str, ty_tup, ty_lst, keyOf_i, keyOf_s, gAddI_i, gSubI_i, index_s, idxKind_s, isDat_d, isDat_r, svB_d, svB_r, moB_lst, moB_dk, natAbs10, asL_l, asK_k, itL_l, liL_l, tdL_l, tdL_k, dsL_k, dsL_l, tyL_l, tyL_k, lstAt_r, dkAt_r, items_r, litems_r, toD_r, dkS_r, dkS_tup, dkS_lst, dkS_dk, dkS_str, tyS_r, v_ixRef, v_lenRef, v_cutRef, ditems_r, v_listRef, v_tupleRef, v_eqRef, v_neRef, v_addRR, v_addRL, v_addLR, finO_nx, finO_rt, finO_bk, finO_ct, isTy_int_NoneType, isTy_int_bool, isTy_int_int, isTy_int_str, isTy_int_tuple, isTy_int_list, isTy_int_dict, isTy_bool_NoneType, isTy_bool_bool, isTy_bool_int, isTy_bool_str, isTy_bool_tuple, isTy_bool_list, isTy_bool_dict, isTy_str_NoneType, isTy_str_bool, isTy_str_int, isTy_str_str, isTy_str_tuple, isTy_str_list, isTy_str_dict, isTy_tuple_NoneType, isTy_tuple_bool, isTy_tuple_int, isTy_tuple_str, isTy_tuple_tuple, isTy_tuple_list, isTy_tuple_dict, isTy_list_NoneType, isTy_list_bool, isTy_list_int, isTy_list_str, isTy_list_tuple, isTy_list_list, isTy_list_dict, isTy_dict_NoneType, isTy_dict_bool, isTy_dict_int, isTy_dict_str, isTy_dict_tuple, isTy_dict_list, isTy_dict_dict, eo_non, eo_bl, eo_int, eo_str, eo_tup, eo_lst, ev_nn, ev_ii, ev_bb, ev_ss, ev_tt, ev_ll, ea_nn, ea_nc, ea_cn, ea_cc, ea_mapd, ev_non_bl, ev_non_int, ev_non_str, ev_non_tup, ev_non_lst, ev_bl_non, ev_bl_str, ev_bl_tup, ev_bl_lst, ev_int_non, ev_int_str, ev_int_tup, ev_int_lst, ev_str_non, ev_str_bl, ev_str_int, ev_str_tup, ev_str_lst, ev_tup_non, ev_tup_bl, ev_tup_int, ev_tup_str, ev_tup_lst, ev_lst_non, ev_lst_bl, ev_lst_int, ev_lst_str, ev_lst_tup, wipeE_nil, wipeE_cons, cast_0, cast_1, cast_2, cast_3, cast_4, cast_5, cast_6, cast_7, cast_8, cast_9, cast_10, cast_11, cast_12, keysOf_nil, keysOf_cons, mergeS_nil, mergeS_cons, inR_s, sz_lt, sz_le, leq_nn, leq_nc, leq_cn, leq_cc, key_ss, key_ii, key_is, key_si, findK_nil, findK_cons, mapS_nil, mapS_cons, putS_nil, putS_cons, Option.bind_some, Option.map_some, Option.bind_none, Option.map_none, List.set_cons_zero, List.set_cons_succ, List.set_nil, List.getElem?_cons_zero, List.getElem?_cons_succ, List.length_cons, List.length_nil, List.nil_append, List.cons_append, List.map_cons, List.map_nil, if_true, if_false, Bool.false_eq_true, reduceIte, List.all_cons, List.all_nil, Bool.and_true, Bool.true_and, Bool.and_false, Bool.false_and, Bool.not_true, Bool.not_false, Bool.or_false, Bool.or_true, Bool.false_or, Bool.true_or, and_self, and_true, true_and, Int.toNat_natCast, decide_true, decide_false, List.take_zero, List.take_nil, List.take_succ_cons, List.drop_succ_cons, List.drop_zero, List.drop_nil, List.set_nil, List.replicate_succ, List.replicate_zero, List.foldl_cons, List.foldl_nil, Nat.reduceSub, Nat.reduceAdd, Nat.reduceLT, Nat.reduceLeDiff, Nat.reduceEqDiff, Nat.reduceMul, Int.reduceAdd, Int.reduceSub, Int.reduceMul, Int.reduceLT, Int.reduceLE, Int.reduceNeg, Int.reducePow, Int.reduceToNat, or_true, true_or, or_false, false_or, false_and, and_false, Nat.reducePow, not_true_eq_false, not_false_eq_true, Nat.add_zero, Nat.zero_add, Nat.sub_self, Nat.sub_zero, reduceCtorEq, Option.map_map, Int.reduceEq, Int.reduceNe, Int.reduceMod, Int.reduceDiv, List.append_nil, rngL_zero, at0, at1, at2, letterD]
  | _ => simp -implicitDefEqProofs only [run_bind, run_some, run_none, run_map, a_var, a_c, a_op, a_un, a_chain, tst_b, a_test, a_and, a_or, a_not, a_andV, a_orV, a_notV, a_if, a_nil, a_cons, a_tup, a_lst, a_new, a_fn, a_isi, a_call, asI_i, a_part, a_noPart, a_cut, a_app, a_ext, a_index, a_sub, a_ps0, a_ps1, a_disp, a_lc, a_tt, a_skip, andThen_nx, andThen_rt, andThen_bk, andThen_ct, a_seq, a_expr, a_ret, a_retN, a_brk, a_cnt, a_ifS, a_set, a_aug, a_asg, two_eq, a_par, a_put, a_daug, a_for, a_scoped, frzO_nx, frzO_bk, frzO_ct, frzO_rt, frzS_d, frzS_r, frzE_nil, frzE_none, frzE_some, a_gN, a_gsNil, a_gsCons, a_gTp, asStr_s, a_strI, asRng_i, a_rng1, asRng2_i, a_rng2, chkOf_d, a_seqI, a_cYes, items_tup, items_lst, litems_lst, ditems_tup, ditems_lst, toD_d, dataAll_nil, dataAll_cons, dataAll_mapd, asD_d, v_ii, v_addI, v_addS, v_addT, v_addL, v_neg, v_ltI, v_ltS, v_eq, v_ne, v_inS, v_notInS, v_ixS, v_ixR, v_ixT, v_ixL, v_cutS, v_cutT, v_cutL, v_lenS, v_lenR, v_lenT, v_lenL, v_abs, v_int1, v_listT, v_listL, v_tupleT, v_tupleL, v_isN, v_notN, isN_non, isN_r, isN_bl, isN_int, isN_str, isN_tup, isN_lst, ty_non, ty_bl, ty_int, ty_str, ty_tup, ty_lst, keyOf_i, keyOf_s, gAddI_i, gSubI_i, index_s, idxKind_s, isDat_d, isDat_r, svB_d, svB_r, moB_lst, moB_dk, natAbs10, asL_l, asK_k, itL_l, liL_l, tdL_l, tdL_k, dsL_k, dsL_l, tyL_l, tyL_k, lstAt_r, dkAt_r, items_r, litems_r, toD_r, dkS_r, dkS_tup, dkS_lst, dkS_dk, dkS_str, tyS_r, v_ixRef, v_lenRef, v_cutRef, ditems_r, v_listRef, v_tupleRef, v_eqRef, v_neRef, v_addRR, v_addRL, v_addLR, finO_nx, finO_rt, finO_bk, finO_ct, isTy_int_NoneType, isTy_int_bool, isTy_int_int, isTy_int_str, isTy_int_tuple, isTy_int_list, isTy_int_dict, isTy_bool_NoneType, isTy_bool_bool, isTy_bool_int, isTy_bool_str, isTy_bool_tuple, isTy_bool_list, isTy_bool_dict, isTy_str_NoneType, isTy_str_bool, isTy_str_int, isTy_str_str, isTy_str_tuple, isTy_str_list, isTy_str_dict, isTy_tuple_NoneType, isTy_tuple_bool, isTy_tuple_int, isTy_tuple_str, isTy_tuple_tuple, isTy_tuple_list, isTy_tuple_dict, isTy_list_NoneType, isTy_list_bool, isTy_list_int, isTy_list_str, isTy_list_tuple, isTy_list_list, isTy_list_dict, isTy_dict_NoneType, isTy_dict_bool, isTy_dict_int, isTy_dict_str, isTy_dict_tuple, isTy_dict_list, isTy_dict_dict, eo_non, eo_bl, eo_int, eo_str, eo_tup, eo_lst, ev_nn, ev_ii, ev_bb, ev_ss, ev_tt, ev_ll, ea_nn, ea_nc, ea_cn, ea_cc, ea_mapd, ev_non_bl, ev_non_int, ev_non_str, ev_non_tup, ev_non_lst, ev_bl_non, ev_bl_str, ev_bl_tup, ev_bl_lst, ev_int_non, ev_int_str, ev_int_tup, ev_int_lst, ev_str_non, ev_str_bl, ev_str_int, ev_str_tup, ev_str_lst, ev_tup_non, ev_tup_bl, ev_tup_int, ev_tup_str, ev_tup_lst, ev_lst_non, ev_lst_bl, ev_lst_int, ev_lst_str, ev_lst_tup, wipeE_nil, wipeE_cons, cast_0, cast_1, cast_2, cast_3, cast_4, cast_5, cast_6, cast_7, cast_8, cast_9, cast_10, cast_11, cast_12, keysOf_nil, keysOf_cons, mergeS_nil, mergeS_cons, inR_s, sz_lt, sz_le, leq_nn, leq_nc, leq_cn, leq_cc, key_ss, key_ii, key_is, key_si, findK_nil, findK_cons, mapS_nil, mapS_cons, putS_nil, putS_cons, Option.bind_some, Option.map_some, Option.bind_none, Option.map_none, List.set_cons_zero, List.set_cons_succ, List.set_nil, List.getElem?_cons_zero, List.getElem?_cons_succ, List.length_cons, List.length_nil, List.nil_append, List.cons_append, List.map_cons, List.map_nil, if_true, if_false, Bool.false_eq_true, reduceIte, List.all_cons, List.all_nil, Bool.and_true, Bool.true_and, Bool.and_false, Bool.false_and, Bool.not_true, Bool.not_false, Bool.or_false, Bool.or_true, Bool.false_or, Bool.true_or, and_self, and_true, true_and, Int.toNat_natCast, decide_true, decide_false, List.take_zero, List.take_nil, List.take_succ_cons, List.drop_succ_cons, List.drop_zero, List.drop_nil, List.set_nil, List.replicate_succ, List.replicate_zero, List.foldl_cons, List.foldl_nil, Nat.reduceSub, Nat.reduceAdd, Nat.reduceLT, Nat.reduceLeDiff, Nat.reduceEqDiff, Nat.reduceMul, Int.reduceAdd, Int.reduceSub, Int.reduceMul, Int.reduceLT, Int.reduceLE, Int.reduceNeg, Int.reducePow, Int.reduceToNat, or_true, true_or, or_false, false_or, false_and, and_false, Nat.reducePow, not_true_eq_false, not_false_eq_true, Nat.add_zero, Nat.zero_add, Nat.sub_self, Nat.sub_zero, reduceCtorEq, Option.map_map, Int.reduceEq, Int.reduceNe, Int.reduceMod, Int.reduceDiv, List.append_nil, rngL_zero, at0, at1, at2, pairD]
theorem p_lawbox (v : D) (s : List Nat) (h : eqOk 30 v = true) (hn : s.length ≤ 100) : F__law_is_box [.d v, .d (.str s)] [] = some (.d (.bl (boxD s.length v)), []) := by
  unfold F__law_is_box g__law_is_box
  rw [a_runF]
  cases v with
  | dk => unfold eqOk at h; cases h
  | scr => unfold eqOk at h; cases h
  | tup rows =>
    have h29 := ok29 h
    rw [eo_tup] at h
    apply Run.eq
    simp -implicitDefEqProofs only [run_bind, run_some, run_none, run_map, a_var, a_c, a_op, a_un, a_chain, tst_b, a_test, a_and, a_or, a_not, a_andV, a_orV, a_notV, a_if, a_nil, a_cons, a_tup, a_lst, a_new, a_fn, a_isi, a_call, asI_i, a_part, a_noPart, a_cut, a_app, a_ext, a_index, a_sub, a_ps0, a_ps1, a_disp, a_lc, a_tt, a_skip, andThen_nx, andThen_rt, andThen_bk, andThen_ct, a_seq, a_expr, a_ret, a_retN, a_brk, a_cnt, a_ifS, a_set, a_aug, a_asg, two_eq, a_par, a_put, a_daug, a_for, a_scoped, frzO_nx, frzO_bk, frzO_ct, frzO_rt, frzS_d, frzS_r, frzE_nil, frzE_none, frzE_some, a_gN, a_gsNil, a_gsCons, a_gTp, asStr_s, a_strI, asRng_i, a_rng1, asRng2_i, a_rng2, chkOf_d, a_seqI, a_cYes, items_tup, items_lst, litems_lst, ditems_tup, ditems_lst, toD_d, dataAll_nil, dataAll_cons, dataAll_mapd, asD_d, v_ii, v_addI, v_addS, v_addT, v_addL, v_neg, v_ltI, v_ltS, v_eq, v_ne, v_inS, v_notInS, v_ixS, v_ixR, v_ixT, v_ixL, v_cutS, v_cutT, v_cutL, v_lenS, v_lenR, v_lenT, v_lenL, v_abs, v_int1, v_listT, v_listL, v_tupleT, v_tupleL, v_isN, v_notN, isN_non, isN_r, isN_bl, isN_int, isN_str, isN_tup, isN_lst, ty_non, ty_bl, ty_int, ty_str, ty_tup, ty_lst, keyOf_i, keyOf_s, gAddI_i, gSubI_i, index_s, idxKind_s, isDat_d, isDat_r, svB_d, svB_r, moB_lst, moB_dk, natAbs10, asL_l, asK_k, itL_l, liL_l, tdL_l, tdL_k, dsL_k, dsL_l, tyL_l, tyL_k, lstAt_r, dkAt_r, items_r, litems_r, toD_r, dkS_r, dkS_tup, dkS_lst, dkS_dk, dkS_str, tyS_r, v_ixRef, v_lenRef, v_cutRef, ditems_r, v_listRef, v_tupleRef, v_eqRef, v_neRef, v_addRR, v_addRL, v_addLR, finO_nx, finO_rt, finO_bk, finO_ct, isTy_int_NoneType, isTy_int_bool, isTy_int_int, isTy_int_str, isTy_int_tuple, isTy_int_list, isTy_int_dict, isTy_bool_NoneType, isTy_bool_bool, isTy_bool_int, isTy_bool_str, isTy_bool_tuple, isTy_bool_list, isTy_bool_dict, isTy_str_NoneType, isTy_str_bool, isTy_str_int, isTy_str_str, isTy_str_tuple, isTy_str_list, isTy_str_dict, isTy_tuple_NoneType, isTy_tuple_bool, isTy_tuple_int, isTy_tuple_str, isTy_tuple_tuple, isTy_tuple_list, isTy_tuple_dict, isTy_list_NoneType, isTy_list_bool, isTy_list_int, isTy_list_str, isTy_list_tuple, isTy_list_list, isTy_list_dict, isTy_dict_NoneType, isTy_dict_bool, isTy_dict_int, isTy_dict_str, isTy_dict_tuple, isTy_dict_list, isTy_dict_dict, eo_non, eo_bl, eo_int, eo_str, eo_tup, eo_lst, ev_nn, ev_ii, ev_bb, ev_ss, ev_tt, ev_ll, ea_nn, ea_nc, ea_cn, ea_cc, ea_mapd, ev_non_bl, ev_non_int, ev_non_str, ev_non_tup, ev_non_lst, ev_bl_non, ev_bl_str, ev_bl_tup, ev_bl_lst, ev_int_non, ev_int_str, ev_int_tup, ev_int_lst, ev_str_non, ev_str_bl, ev_str_int, ev_str_tup, ev_str_lst, ev_tup_non, ev_tup_bl, ev_tup_int, ev_tup_str, ev_tup_lst, ev_lst_non, ev_lst_bl, ev_lst_int, ev_lst_str, ev_lst_tup, wipeE_nil, wipeE_cons, cast_0, cast_1, cast_2, cast_3, cast_4, cast_5, cast_6, cast_7, cast_8, cast_9, cast_10, cast_11, cast_12, keysOf_nil, keysOf_cons, mergeS_nil, mergeS_cons, inR_s, sz_lt, sz_le, leq_nn, leq_nc, leq_cn, leq_cc, key_ss, key_ii, key_is, key_si, findK_nil, findK_cons, mapS_nil, mapS_cons, putS_nil, putS_cons, Option.bind_some, Option.map_some, Option.bind_none, Option.map_none, List.set_cons_zero, List.set_cons_succ, List.set_nil, List.getElem?_cons_zero, List.getElem?_cons_succ, List.length_cons, List.length_nil, List.nil_append, List.cons_append, List.map_cons, List.map_nil, if_true, if_false, Bool.false_eq_true, reduceIte, List.all_cons, List.all_nil, Bool.and_true, Bool.true_and, Bool.and_false, Bool.false_and, Bool.not_true, Bool.not_false, Bool.or_false, Bool.or_true, Bool.false_or, Bool.true_or, and_self, and_true, true_and, Int.toNat_natCast, decide_true, decide_false, List.take_zero, List.take_nil, List.take_succ_cons, List.drop_succ_cons, List.drop_zero, List.drop_nil, List.set_nil, List.replicate_succ, List.replicate_zero, List.foldl_cons, List.foldl_nil, Nat.reduceSub, Nat.reduceAdd, Nat.reduceLT, Nat.reduceLeDiff, Nat.reduceEqDiff, Nat.reduceMul, Int.reduceAdd, Int.reduceSub, Int.reduceMul, Int.reduceLT, Int.reduceLE, Int.reduceNeg, Int.reducePow, Int.reduceToNat, or_true, true_or, or_false, false_or, false_and, and_false, Nat.reducePow, not_true_eq_false, not_false_eq_true, Nat.add_zero, Nat.zero_add, Nat.sub_self, Nat.sub_zero, reduceCtorEq, Option.map_map, Int.reduceEq, Int.reduceNe, Int.reduceMod, Int.reduceDiv, List.append_nil, rngL_zero, at0, at1, at2, h, ea_n]
    cases rows with
    | nil => simp -implicitDefEqProofs only [run_bind, run_some, run_none, run_map, a_var, a_c, a_op, a_un, a_chain, tst_b, a_test, a_and, a_or, a_not, a_andV, a_orV, a_notV, a_if, a_nil, a_cons, a_tup, a_lst, a_new, a_fn, a_isi, a_call, asI_i, a_part, a_noPart, a_cut, a_app, a_ext, a_index, a_sub, a_ps0, a_ps1, a_disp, a_lc, a_tt, a_skip, andThen_nx, andThen_rt, andThen_bk, andThen_ct, a_seq, a_expr, a_ret, a_retN, a_brk, a_cnt, a_ifS, a_set, a_aug, a_asg, two_eq, a_par, a_put, a_daug, a_for, a_scoped, frzO_nx, frzO_bk, frzO_ct, frzO_rt, frzS_d, frzS_r, frzE_nil, frzE_none, frzE_some, a_gN, a_gsNil, a_gsCons, a_gTp, asStr_s, a_strI, asRng_i, a_rng1, asRng2_i, a_rng2, chkOf_d, a_seqI, a_cYes, items_tup, items_lst, litems_lst, ditems_tup, ditems_lst, toD_d, dataAll_nil, dataAll_cons, dataAll_mapd, asD_d, v_ii, v_addI, v_addS, v_addT, v_addL, v_neg, v_ltI, v_ltS, v_eq, v_ne, v_inS, v_notInS, v_ixS, v_ixR, v_ixT, v_ixL, v_cutS, v_cutT, v_cutL, v_lenS, v_lenR, v_lenT, v_lenL, v_abs, v_int1, v_listT, v_listL, v_tupleT, v_tupleL, v_isN, v_notN, isN_non, isN_r, isN_bl, isN_int, isN_str, isN_tup, isN_lst, ty_non, ty_bl, ty_int, ty_str, ty_tup, ty_lst, keyOf_i, keyOf_s, gAddI_i, gSubI_i, index_s, idxKind_s, isDat_d, isDat_r, svB_d, svB_r, moB_lst, moB_dk, natAbs10, asL_l, asK_k, itL_l, liL_l, tdL_l, tdL_k, dsL_k, dsL_l, tyL_l, tyL_k, lstAt_r, dkAt_r, items_r, litems_r, toD_r, dkS_r, dkS_tup, dkS_lst, dkS_dk, dkS_str, tyS_r, v_ixRef, v_lenRef, v_cutRef, ditems_r, v_listRef, v_tupleRef, v_eqRef, v_neRef, v_addRR, v_addRL, v_addLR, finO_nx, finO_rt, finO_bk, finO_ct, isTy_int_NoneType, isTy_int_bool, isTy_int_int, isTy_int_str, isTy_int_tuple, isTy_int_list, isTy_int_dict, isTy_bool_NoneType, isTy_bool_bool, isTy_bool_int, isTy_bool_str, isTy_bool_tuple, isTy_bool_list, isTy_bool_dict, isTy_str_NoneType, isTy_str_bool, isTy_str_int, isTy_str_str, isTy_str_tuple, isTy_str_list, isTy_str_dict, isTy_tuple_NoneType, isTy_tuple_bool, isTy_tuple_int, isTy_tuple_str, isTy_tuple_tuple, isTy_tuple_list, isTy_tuple_dict, isTy_list_NoneType, isTy_list_bool, isTy_list_int, isTy_list_str, isTy_list_tuple, isTy_list_list, isTy_list_dict, isTy_dict_NoneType, isTy_dict_bool, isTy_dict_int, isTy_dict_str, isTy_dict_tuple, isTy_dict_list, isTy_dict_dict, eo_non, eo_bl, eo_int, eo_str, eo_tup, eo_lst, ev_nn, ev_ii, ev_bb, ev_ss, ev_tt, ev_ll, ea_nn, ea_nc, ea_cn, ea_cc, ea_mapd, ev_non_bl, ev_non_int, ev_non_str, ev_non_tup, ev_non_lst, ev_bl_non, ev_bl_str, ev_bl_tup, ev_bl_lst, ev_int_non, ev_int_str, ev_int_tup, ev_int_lst, ev_str_non, ev_str_bl, ev_str_int, ev_str_tup, ev_str_lst, ev_tup_non, ev_tup_bl, ev_tup_int, ev_tup_str, ev_tup_lst, ev_lst_non, ev_lst_bl, ev_lst_int, ev_lst_str, ev_lst_tup, wipeE_nil, wipeE_cons, cast_0, cast_1, cast_2, cast_3, cast_4, cast_5, cast_6, cast_7, cast_8, cast_9, cast_10, cast_11, cast_12, keysOf_nil, keysOf_cons, mergeS_nil, mergeS_cons, inR_s, sz_lt, sz_le, leq_nn, leq_nc, leq_cn, leq_cc, key_ss, key_ii, key_is, key_si, findK_nil, findK_cons, mapS_nil, mapS_cons, putS_nil, putS_cons, Option.bind_some, Option.map_some, Option.bind_none, Option.map_none, List.set_cons_zero, List.set_cons_succ, List.set_nil, List.getElem?_cons_zero, List.getElem?_cons_succ, List.length_cons, List.length_nil, List.nil_append, List.cons_append, List.map_cons, List.map_nil, if_true, if_false, Bool.false_eq_true, reduceIte, List.all_cons, List.all_nil, Bool.and_true, Bool.true_and, Bool.and_false, Bool.false_and, Bool.not_true, Bool.not_false, Bool.or_false, Bool.or_true, Bool.false_or, Bool.true_or, and_self, and_true, true_and, Int.toNat_natCast, decide_true, decide_false, List.take_zero, List.take_nil, List.take_succ_cons, List.drop_succ_cons, List.drop_zero, List.drop_nil, List.set_nil, List.replicate_succ, List.replicate_zero, List.foldl_cons, List.foldl_nil, Nat.reduceSub, Nat.reduceAdd, Nat.reduceLT, Nat.reduceLeDiff, Nat.reduceEqDiff, Nat.reduceMul, Int.reduceAdd, Int.reduceSub, Int.reduceMul, Int.reduceLT, Int.reduceLE, Int.reduceNeg, Int.reducePow, Int.reduceToNat, or_true, true_or, or_false, false_or, false_and, and_false, Nat.reducePow, not_true_eq_false, not_false_eq_true, Nat.add_zero, Nat.zero_add, Nat.sub_self, Nat.sub_zero, reduceCtorEq, Option.map_map, Int.reduceEq, Int.reduceNe, Int.reduceMod, Int.reduceDiv, List.append_nil, rngL_zero, at0, at1, at2, boxD, List.isEmpty_nil]
    | cons r0 rest =>
      generalize hrows : r0 :: rest = rows at h h29 ⊢
      have hne : rows.isEmpty = false := by rw [← hrows]; rfl
      simp -implicitDefEqProofs only [run_bind, run_some, run_none, run_map, a_var, a_c, a_op, a_un, a_chain, tst_b, a_test, a_and, a_or, a_not, a_andV, a_orV, a_notV, a_if, a_nil, a_cons, a_tup, a_lst, a_new, a_fn, a_isi, a_call, asI_i, a_part, a_noPart, a_cut, a_app, a_ext, a_index, a_sub, a_ps0, a_ps1, a_disp, a_lc, a_tt, a_skip, andThen_nx, andThen_rt, andThen_bk, andThen_ct, a_seq, a_expr, a_ret, a_retN, a_brk, a_cnt, a_ifS, a_set, a_aug, a_asg, two_eq, a_par, a_put, a_daug, a_for, a_scoped, frzO_nx, frzO_bk, frzO_ct, frzO_rt, frzS_d, frzS_r, frzE_nil, frzE_none, frzE_some, a_gN, a_gsNil, a_gsCons, a_gTp, asStr_s, a_strI, asRng_i, a_rng1, asRng2_i, a_rng2, chkOf_d, a_seqI, a_cYes, items_tup, items_lst, litems_lst, ditems_tup, ditems_lst, toD_d, dataAll_nil, dataAll_cons, dataAll_mapd, asD_d, v_ii, v_addI, v_addS, v_addT, v_addL, v_neg, v_ltI, v_ltS, v_eq, v_ne, v_inS, v_notInS, v_ixS, v_ixR, v_ixT, v_ixL, v_cutS, v_cutT, v_cutL, v_lenS, v_lenR, v_lenT, v_lenL, v_abs, v_int1, v_listT, v_listL, v_tupleT, v_tupleL, v_isN, v_notN, isN_non, isN_r, isN_bl, isN_int, isN_str, isN_tup, isN_lst, ty_non, ty_bl, ty_int, ty_str, ty_tup, ty_lst, keyOf_i, keyOf_s, gAddI_i, gSubI_i, index_s, idxKind_s, isDat_d, isDat_r, svB_d, svB_r, moB_lst, moB_dk, natAbs10, asL_l, asK_k, itL_l, liL_l, tdL_l, tdL_k, dsL_k, dsL_l, tyL_l, tyL_k, lstAt_r, dkAt_r, items_r, litems_r, toD_r, dkS_r, dkS_tup, dkS_lst, dkS_dk, dkS_str, tyS_r, v_ixRef, v_lenRef, v_cutRef, ditems_r, v_listRef, v_tupleRef, v_eqRef, v_neRef, v_addRR, v_addRL, v_addLR, finO_nx, finO_rt, finO_bk, finO_ct, isTy_int_NoneType, isTy_int_bool, isTy_int_int, isTy_int_str, isTy_int_tuple, isTy_int_list, isTy_int_dict, isTy_bool_NoneType, isTy_bool_bool, isTy_bool_int, isTy_bool_str, isTy_bool_tuple, isTy_bool_list, isTy_bool_dict, isTy_str_NoneType, isTy_str_bool, isTy_str_int, isTy_str_str, isTy_str_tuple, isTy_str_list, isTy_str_dict, isTy_tuple_NoneType, isTy_tuple_bool, isTy_tuple_int, isTy_tuple_str, isTy_tuple_tuple, isTy_tuple_list, isTy_tuple_dict, isTy_list_NoneType, isTy_list_bool, isTy_list_int, isTy_list_str, isTy_list_tuple, isTy_list_list, isTy_list_dict, isTy_dict_NoneType, isTy_dict_bool, isTy_dict_int, isTy_dict_str, isTy_dict_tuple, isTy_dict_list, isTy_dict_dict, eo_non, eo_bl, eo_int, eo_str, eo_tup, eo_lst, ev_nn, ev_ii, ev_bb, ev_ss, ev_tt, ev_ll, ea_nn, ea_nc, ea_cn, ea_cc, ea_mapd, ev_non_bl, ev_non_int, ev_non_str, ev_non_tup, ev_non_lst, ev_bl_non, ev_bl_str, ev_bl_tup, ev_bl_lst, ev_int_non, ev_int_str, ev_int_tup, ev_int_lst, ev_str_non, ev_str_bl, ev_str_int, ev_str_tup, ev_str_lst, ev_tup_non, ev_tup_bl, ev_tup_int, ev_tup_str, ev_tup_lst, ev_lst_non, ev_lst_bl, ev_lst_int, ev_lst_str, ev_lst_tup, wipeE_nil, wipeE_cons, cast_0, cast_1, cast_2, cast_3, cast_4, cast_5, cast_6, cast_7, cast_8, cast_9, cast_10, cast_11, cast_12, keysOf_nil, keysOf_cons, mergeS_nil, mergeS_cons, inR_s, sz_lt, sz_le, leq_nn, leq_nc, leq_cn, leq_cc, key_ss, key_ii, key_is, key_si, findK_nil, findK_cons, mapS_nil, mapS_cons, putS_nil, putS_cons, Option.bind_some, Option.map_some, Option.bind_none, Option.map_none, List.set_cons_zero, List.set_cons_succ, List.set_nil, List.getElem?_cons_zero, List.getElem?_cons_succ, List.length_cons, List.length_nil, List.nil_append, List.cons_append, List.map_cons, List.map_nil, if_true, if_false, Bool.false_eq_true, reduceIte, List.all_cons, List.all_nil, Bool.and_true, Bool.true_and, Bool.and_false, Bool.false_and, Bool.not_true, Bool.not_false, Bool.or_false, Bool.or_true, Bool.false_or, Bool.true_or, and_self, and_true, true_and, Int.toNat_natCast, decide_true, decide_false, List.take_zero, List.take_nil, List.take_succ_cons, List.drop_succ_cons, List.drop_zero, List.drop_nil, List.set_nil, List.replicate_succ, List.replicate_zero, List.foldl_cons, List.foldl_nil, Nat.reduceSub, Nat.reduceAdd, Nat.reduceLT, Nat.reduceLeDiff, Nat.reduceEqDiff, Nat.reduceMul, Int.reduceAdd, Int.reduceSub, Int.reduceMul, Int.reduceLT, Int.reduceLE, Int.reduceNeg, Int.reducePow, Int.reduceToNat, or_true, true_or, or_false, false_or, false_and, and_false, Nat.reducePow, not_true_eq_false, not_false_eq_true, Nat.add_zero, Nat.zero_add, Nat.sub_self, Nat.sub_zero, reduceCtorEq, Option.map_map, Int.reduceEq, Int.reduceNe, Int.reduceMod, Int.reduceDiv, List.append_nil, rngL_zero, at0, at1, at2, hne]
      refine (forL_all (v := .d (.bl false)) (fun δ => ∃ o2, δ = [some (.d (.tup rows)), some (.d (.str s)), o2, none] ∧ okO o2) SV.d (rowD s.length rows.length) rows ⟨none, rfl, okO_none⟩ ?_).mono ?_
      · rintro x hx δ ⟨o2, rfl, k2⟩
        have hx30 := h29 x hx
        have hx29 := List.all_eq_true.mp h x hx
        simp -implicitDefEqProofs only [run_bind, run_some, run_none, run_map, a_var, a_c, a_op, a_un, a_chain, tst_b, a_test, a_and, a_or, a_not, a_andV, a_orV, a_notV, a_if, a_nil, a_cons, a_tup, a_lst, a_new, a_fn, a_isi, a_call, asI_i, a_part, a_noPart, a_cut, a_app, a_ext, a_index, a_sub, a_ps0, a_ps1, a_disp, a_lc, a_tt, a_skip, andThen_nx, andThen_rt, andThen_bk, andThen_ct, a_seq, a_expr, a_ret, a_retN, a_brk, a_cnt, a_ifS, a_set, a_aug, a_asg, two_eq, a_par, a_put, a_daug, a_for, a_scoped, frzO_nx, frzO_bk, frzO_ct, frzO_rt, frzS_d, frzS_r, frzE_nil, frzE_none, frzE_some, a_gN, a_gsNil, a_gsCons, a_gTp, asStr_s, a_strI, asRng_i, a_rng1, asRng2_i, a_rng2, chkOf_d, a_seqI, a_cYes, items_tup, items_lst, litems_lst, ditems_tup, ditems_lst, toD_d, dataAll_nil, dataAll_cons, dataAll_mapd, asD_d, v_ii, v_addI, v_addS, v_addT, v_addL, v_neg, v_ltI, v_ltS, v_eq, v_ne, v_inS, v_notInS, v_ixS, v_ixR, v_ixT, v_ixL, v_cutS, v_cutT, v_cutL, v_lenS, v_lenR, v_lenT, v_lenL, v_abs, v_int1, v_listT, v_listL, v_tupleT, v_tupleL, v_isN, v_notN, isN_non, isN_r, isN_bl, isN_int, isN_str, isN_tup, isN_lst, ty_non, ty_bl, ty_int, ty_str, ty_tup, ty_lst, keyOf_i, keyOf_s, gAddI_i, gSubI_i, index_s, idxKind_s, isDat_d, isDat_r, svB_d, svB_r, moB_lst, moB_dk, natAbs10, asL_l, asK_k, itL_l, liL_l, tdL_l, tdL_k, dsL_k, dsL_l, tyL_l, tyL_k, lstAt_r, dkAt_r, items_r, litems_r, toD_r, dkS_r, dkS_tup, dkS_lst, dkS_dk, dkS_str, tyS_r, v_ixRef, v_lenRef, v_cutRef, ditems_r, v_listRef, v_tupleRef, v_eqRef, v_neRef, v_addRR, v_addRL, v_addLR, finO_nx, finO_rt, finO_bk, finO_ct, isTy_int_NoneType, isTy_int_bool, isTy_int_int, isTy_int_str, isTy_int_tuple, isTy_int_list, isTy_int_dict, isTy_bool_NoneType, isTy_bool_bool, isTy_bool_int, isTy_bool_str, isTy_bool_tuple, isTy_bool_list, isTy_bool_dict, isTy_str_NoneType, isTy_str_bool, isTy_str_int, isTy_str_str, isTy_str_tuple, isTy_str_list, isTy_str_dict, isTy_tuple_NoneType, isTy_tuple_bool, isTy_tuple_int, isTy_tuple_str, isTy_tuple_tuple, isTy_tuple_list, isTy_tuple_dict, isTy_list_NoneType, isTy_list_bool, isTy_list_int, isTy_list_str, isTy_list_tuple, isTy_list_list, isTy_list_dict, isTy_dict_NoneType, isTy_dict_bool, isTy_dict_int, isTy_dict_str, isTy_dict_tuple, isTy_dict_list, isTy_dict_dict, eo_non, eo_bl, eo_int, eo_str, eo_tup, eo_lst, ev_nn, ev_ii, ev_bb, ev_ss, ev_tt, ev_ll, ea_nn, ea_nc, ea_cn, ea_cc, ea_mapd, ev_non_bl, ev_non_int, ev_non_str, ev_non_tup, ev_non_lst, ev_bl_non, ev_bl_str, ev_bl_tup, ev_bl_lst, ev_int_non, ev_int_str, ev_int_tup, ev_int_lst, ev_str_non, ev_str_bl, ev_str_int, ev_str_tup, ev_str_lst, ev_tup_non, ev_tup_bl, ev_tup_int, ev_tup_str, ev_tup_lst, ev_lst_non, ev_lst_bl, ev_lst_int, ev_lst_str, ev_lst_tup, wipeE_nil, wipeE_cons, cast_0, cast_1, cast_2, cast_3, cast_4, cast_5, cast_6, cast_7, cast_8, cast_9, cast_10, cast_11, cast_12, keysOf_nil, keysOf_cons, mergeS_nil, mergeS_cons, inR_s, sz_lt, sz_le, leq_nn, leq_nc, leq_cn, leq_cc, key_ss, key_ii, key_is, key_si, findK_nil, findK_cons, mapS_nil, mapS_cons, putS_nil, putS_cons, Option.bind_some, Option.map_some, Option.bind_none, Option.map_none, List.set_cons_zero, List.set_cons_succ, List.set_nil, List.getElem?_cons_zero, List.getElem?_cons_succ, List.length_cons, List.length_nil, List.nil_append, List.cons_append, List.map_cons, List.map_nil, if_true, if_false, Bool.false_eq_true, reduceIte, List.all_cons, List.all_nil, Bool.and_true, Bool.true_and, Bool.and_false, Bool.false_and, Bool.not_true, Bool.not_false, Bool.or_false, Bool.or_true, Bool.false_or, Bool.true_or, and_self, and_true, true_and, Int.toNat_natCast, decide_true, decide_false, List.take_zero, List.take_nil, List.take_succ_cons, List.drop_succ_cons, List.drop_zero, List.drop_nil, List.set_nil, List.replicate_succ, List.replicate_zero, List.foldl_cons, List.foldl_nil, Nat.reduceSub, Nat.reduceAdd, Nat.reduceLT, Nat.reduceLeDiff, Nat.reduceEqDiff, Nat.reduceMul, Int.reduceAdd, Int.reduceSub, Int.reduceMul, Int.reduceLT, Int.reduceLE, Int.reduceNeg, Int.reducePow, Int.reduceToNat, or_true, true_or, or_false, false_or, false_and, and_false, Nat.reducePow, not_true_eq_false, not_false_eq_true, Nat.add_zero, Nat.zero_add, Nat.sub_self, Nat.sub_zero, reduceCtorEq, Option.map_map, Int.reduceEq, Int.reduceNe, Int.reduceMod, Int.reduceDiv, List.append_nil, rngL_zero, at0, at1, at2]
        cases x with
        | dk => unfold eqOk at hx30; cases hx30
        | scr => unfold eqOk at hx30; cases hx30
        | tup ps =>
          by_cases hl : ps.length = s.length
          · have hp := ok29 hx30
            have hp28 : (ps.filter fun y => !pairD rows.length y).all (eqOk 29) = true := by
              rw [eo_tup, List.all_eq_true] at hx29
              exact List.all_eq_true.mpr fun y hy => eqOk_up _ _ (hx29 y (List.mem_filter.mp hy).1)
            simp -implicitDefEqProofs only [run_bind, run_some, run_none, run_map, a_var, a_c, a_op, a_un, a_chain, tst_b, a_test, a_and, a_or, a_not, a_andV, a_orV, a_notV, a_if, a_nil, a_cons, a_tup, a_lst, a_new, a_fn, a_isi, a_call, asI_i, a_part, a_noPart, a_cut, a_app, a_ext, a_index, a_sub, a_ps0, a_ps1, a_disp, a_lc, a_tt, a_skip, andThen_nx, andThen_rt, andThen_bk, andThen_ct, a_seq, a_expr, a_ret, a_retN, a_brk, a_cnt, a_ifS, a_set, a_aug, a_asg, two_eq, a_par, a_put, a_daug, a_for, a_scoped, frzO_nx, frzO_bk, frzO_ct, frzO_rt, frzS_d, frzS_r, frzE_nil, frzE_none, frzE_some, a_gN, a_gsNil, a_gsCons, a_gTp, asStr_s, a_strI, asRng_i, a_rng1, asRng2_i, a_rng2, chkOf_d, a_seqI, a_cYes, items_tup, items_lst, litems_lst, ditems_tup, ditems_lst, toD_d, dataAll_nil, dataAll_cons, dataAll_mapd, asD_d, v_ii, v_addI, v_addS, v_addT, v_addL, v_neg, v_ltI, v_ltS, v_eq, v_ne, v_inS, v_notInS, v_ixS, v_ixR, v_ixT, v_ixL, v_cutS, v_cutT, v_cutL, v_lenS, v_lenR, v_lenT, v_lenL, v_abs, v_int1, v_listT, v_listL, v_tupleT, v_tupleL, v_isN, v_notN, isN_non, isN_r, isN_bl, isN_int, isN_str, isN_tup, isN_lst, ty_non, ty_bl, ty_int, ty_str, ty_tup, ty_lst, keyOf_i, keyOf_s, gAddI_i, gSubI_i, index_s, idxKind_s, isDat_d, isDat_r, svB_d, svB_r, moB_lst, moB_dk, natAbs10, asL_l, asK_k, itL_l, liL_l, tdL_l, tdL_k, dsL_k, dsL_l, tyL_l, tyL_k, lstAt_r, dkAt_r, items_r, litems_r, toD_r, dkS_r, dkS_tup, dkS_lst, dkS_dk, dkS_str, tyS_r, v_ixRef, v_lenRef, v_cutRef, ditems_r, v_listRef, v_tupleRef, v_eqRef, v_neRef, v_addRR, v_addRL, v_addLR, finO_nx, finO_rt, finO_bk, finO_ct, isTy_int_NoneType, isTy_int_bool, isTy_int_int, isTy_int_str, isTy_int_tuple, isTy_int_list, isTy_int_dict, isTy_bool_NoneType, isTy_bool_bool, isTy_bool_int, isTy_bool_str, isTy_bool_tuple, isTy_bool_list, isTy_bool_dict, isTy_str_NoneType, isTy_str_bool, isTy_str_int, isTy_str_str, isTy_str_tuple, isTy_str_list, isTy_str_dict, isTy_tuple_NoneType, isTy_tuple_bool, isTy_tuple_int, isTy_tuple_str, isTy_tuple_tuple, isTy_tuple_list, isTy_tuple_dict, isTy_list_NoneType, isTy_list_bool, isTy_list_int, isTy_list_str, isTy_list_tuple, isTy_list_list, isTy_list_dict, isTy_dict_NoneType, isTy_dict_bool, isTy_dict_int, isTy_dict_str, isTy_dict_tuple, isTy_dict_list, isTy_dict_dict, eo_non, eo_bl, eo_int, eo_str, eo_tup, eo_lst, ev_nn, ev_ii, ev_bb, ev_ss, ev_tt, ev_ll, ea_nn, ea_nc, ea_cn, ea_cc, ea_mapd, ev_non_bl, ev_non_int, ev_non_str, ev_non_tup, ev_non_lst, ev_bl_non, ev_bl_str, ev_bl_tup, ev_bl_lst, ev_int_non, ev_int_str, ev_int_tup, ev_int_lst, ev_str_non, ev_str_bl, ev_str_int, ev_str_tup, ev_str_lst, ev_tup_non, ev_tup_bl, ev_tup_int, ev_tup_str, ev_tup_lst, ev_lst_non, ev_lst_bl, ev_lst_int, ev_lst_str, ev_lst_tup, wipeE_nil, wipeE_cons, cast_0, cast_1, cast_2, cast_3, cast_4, cast_5, cast_6, cast_7, cast_8, cast_9, cast_10, cast_11, cast_12, keysOf_nil, keysOf_cons, mergeS_nil, mergeS_cons, inR_s, sz_lt, sz_le, leq_nn, leq_nc, leq_cn, leq_cc, key_ss, key_ii, key_is, key_si, findK_nil, findK_cons, mapS_nil, mapS_cons, putS_nil, putS_cons, Option.bind_some, Option.map_some, Option.bind_none, Option.map_none, List.set_cons_zero, List.set_cons_succ, List.set_nil, List.getElem?_cons_zero, List.getElem?_cons_succ, List.length_cons, List.length_nil, List.nil_append, List.cons_append, List.map_cons, List.map_nil, if_true, if_false, Bool.false_eq_true, reduceIte, List.all_cons, List.all_nil, Bool.and_true, Bool.true_and, Bool.and_false, Bool.false_and, Bool.not_true, Bool.not_false, Bool.or_false, Bool.or_true, Bool.false_or, Bool.true_or, and_self, and_true, true_and, Int.toNat_natCast, decide_true, decide_false, List.take_zero, List.take_nil, List.take_succ_cons, List.drop_succ_cons, List.drop_zero, List.drop_nil, List.set_nil, List.replicate_succ, List.replicate_zero, List.foldl_cons, List.foldl_nil, Nat.reduceSub, Nat.reduceAdd, Nat.reduceLT, Nat.reduceLeDiff, Nat.reduceEqDiff, Nat.reduceMul, Int.reduceAdd, Int.reduceSub, Int.reduceMul, Int.reduceLT, Int.reduceLE, Int.reduceNeg, Int.reducePow, Int.reduceToNat, or_true, true_or, or_false, false_or, false_and, and_false, Nat.reducePow, not_true_eq_false, not_false_eq_true, Nat.add_zero, Nat.zero_add, Nat.sub_self, Nat.sub_zero, reduceCtorEq, Option.map_map, Int.reduceEq, Int.reduceNe, Int.reduceMod, Int.reduceDiv, List.append_nil, rngL_zero, at0, at1, at2, rowD, hl]
            rw [lcL_fil SV.d (fun y => !pairD rows.length y) id ps [] (by simp; omega)]
            · simp -implicitDefEqProofs only [run_bind, run_some, run_none, run_map, a_var, a_c, a_op, a_un, a_chain, tst_b, a_test, a_and, a_or, a_not, a_andV, a_orV, a_notV, a_if, a_nil, a_cons, a_tup, a_lst, a_new, a_fn, a_isi, a_call, asI_i, a_part, a_noPart, a_cut, a_app, a_ext, a_index, a_sub, a_ps0, a_ps1, a_disp, a_lc, a_tt, a_skip, andThen_nx, andThen_rt, andThen_bk, andThen_ct, a_seq, a_expr, a_ret, a_retN, a_brk, a_cnt, a_ifS, a_set, a_aug, a_asg, two_eq, a_par, a_put, a_daug, a_for, a_scoped, frzO_nx, frzO_bk, frzO_ct, frzO_rt, frzS_d, frzS_r, frzE_nil, frzE_none, frzE_some, a_gN, a_gsNil, a_gsCons, a_gTp, asStr_s, a_strI, asRng_i, a_rng1, asRng2_i, a_rng2, chkOf_d, a_seqI, a_cYes, items_tup, items_lst, litems_lst, ditems_tup, ditems_lst, toD_d, dataAll_nil, dataAll_cons, dataAll_mapd, asD_d, v_ii, v_addI, v_addS, v_addT, v_addL, v_neg, v_ltI, v_ltS, v_eq, v_ne, v_inS, v_notInS, v_ixS, v_ixR, v_ixT, v_ixL, v_cutS, v_cutT, v_cutL, v_lenS, v_lenR, v_lenT, v_lenL, v_abs, v_int1, v_listT, v_listL, v_tupleT, v_tupleL, v_isN, v_notN, isN_non, isN_r, isN_bl, isN_int, isN_str, isN_tup, isN_lst, ty_non, ty_bl, ty_int, ty_str, ty_tup, ty_lst, keyOf_i, keyOf_s, gAddI_i, gSubI_i, index_s, idxKind_s, isDat_d, isDat_r, svB_d, svB_r, moB_lst, moB_dk, natAbs10, asL_l, asK_k, itL_l, liL_l, tdL_l, tdL_k, dsL_k, dsL_l, tyL_l, tyL_k, lstAt_r, dkAt_r, items_r, litems_r, toD_r, dkS_r, dkS_tup, dkS_lst, dkS_dk, dkS_str, tyS_r, v_ixRef, v_lenRef, v_cutRef, ditems_r, v_listRef, v_tupleRef, v_eqRef, v_neRef, v_addRR, v_addRL, v_addLR, finO_nx, finO_rt, finO_bk, finO_ct, isTy_int_NoneType, isTy_int_bool, isTy_int_int, isTy_int_str, isTy_int_tuple, isTy_int_list, isTy_int_dict, isTy_bool_NoneType, isTy_bool_bool, isTy_bool_int, isTy_bool_str, isTy_bool_tuple, isTy_bool_list, isTy_bool_dict, isTy_str_NoneType, isTy_str_bool, isTy_str_int, isTy_str_str, isTy_str_tuple, isTy_str_list, isTy_str_dict, isTy_tuple_NoneType, isTy_tuple_bool, isTy_tuple_int, isTy_tuple_str, isTy_tuple_tuple, isTy_tuple_list, isTy_tuple_dict, isTy_list_NoneType, isTy_list_bool, isTy_list_int, isTy_list_str, isTy_list_tuple, isTy_list_list, isTy_list_dict, isTy_dict_NoneType, isTy_dict_bool, isTy_dict_int, isTy_dict_str, isTy_dict_tuple, isTy_dict_list, isTy_dict_dict, eo_non, eo_bl, eo_int, eo_str, eo_tup, eo_lst, ev_nn, ev_ii, ev_bb, ev_ss, ev_tt, ev_ll, ea_nn, ea_nc, ea_cn, ea_cc, ea_mapd, ev_non_bl, ev_non_int, ev_non_str, ev_non_tup, ev_non_lst, ev_bl_non, ev_bl_str, ev_bl_tup, ev_bl_lst, ev_int_non, ev_int_str, ev_int_tup, ev_int_lst, ev_str_non, ev_str_bl, ev_str_int, ev_str_tup, ev_str_lst, ev_tup_non, ev_tup_bl, ev_tup_int, ev_tup_str, ev_tup_lst, ev_lst_non, ev_lst_bl, ev_lst_int, ev_lst_str, ev_lst_tup, wipeE_nil, wipeE_cons, cast_0, cast_1, cast_2, cast_3, cast_4, cast_5, cast_6, cast_7, cast_8, cast_9, cast_10, cast_11, cast_12, keysOf_nil, keysOf_cons, mergeS_nil, mergeS_cons, inR_s, sz_lt, sz_le, leq_nn, leq_nc, leq_cn, leq_cc, key_ss, key_ii, key_is, key_si, findK_nil, findK_cons, mapS_nil, mapS_cons, putS_nil, putS_cons, Option.bind_some, Option.map_some, Option.bind_none, Option.map_none, List.set_cons_zero, List.set_cons_succ, List.set_nil, List.getElem?_cons_zero, List.getElem?_cons_succ, List.length_cons, List.length_nil, List.nil_append, List.cons_append, List.map_cons, List.map_nil, if_true, if_false, Bool.false_eq_true, reduceIte, List.all_cons, List.all_nil, Bool.and_true, Bool.true_and, Bool.and_false, Bool.false_and, Bool.not_true, Bool.not_false, Bool.or_false, Bool.or_true, Bool.false_or, Bool.true_or, and_self, and_true, true_and, Int.toNat_natCast, decide_true, decide_false, List.take_zero, List.take_nil, List.take_succ_cons, List.drop_succ_cons, List.drop_zero, List.drop_nil, List.set_nil, List.replicate_succ, List.replicate_zero, List.foldl_cons, List.foldl_nil, Nat.reduceSub, Nat.reduceAdd, Nat.reduceLT, Nat.reduceLeDiff, Nat.reduceEqDiff, Nat.reduceMul, Int.reduceAdd, Int.reduceSub, Int.reduceMul, Int.reduceLT, Int.reduceLE, Int.reduceNeg, Int.reducePow, Int.reduceToNat, or_true, true_or, or_false, false_or, false_and, and_false, Nat.reducePow, not_true_eq_false, not_false_eq_true, Nat.add_zero, Nat.zero_add, Nat.sub_self, Nat.sub_zero, reduceCtorEq, Option.map_map, Int.reduceEq, Int.reduceNe, Int.reduceMod, Int.reduceDiv, List.append_nil, rngL_zero, at0, at1, at2, List.map_id, hp28, ea_n, fil_empty]
              by_cases hall : ps.all (pairD rows.length) = true
              · simp -implicitDefEqProofs only [run_bind, run_some, run_none, run_map, a_var, a_c, a_op, a_un, a_chain, tst_b, a_test, a_and, a_or, a_not, a_andV, a_orV, a_notV, a_if, a_nil, a_cons, a_tup, a_lst, a_new, a_fn, a_isi, a_call, asI_i, a_part, a_noPart, a_cut, a_app, a_ext, a_index, a_sub, a_ps0, a_ps1, a_disp, a_lc, a_tt, a_skip, andThen_nx, andThen_rt, andThen_bk, andThen_ct, a_seq, a_expr, a_ret, a_retN, a_brk, a_cnt, a_ifS, a_set, a_aug, a_asg, two_eq, a_par, a_put, a_daug, a_for, a_scoped, frzO_nx, frzO_bk, frzO_ct, frzO_rt, frzS_d, frzS_r, frzE_nil, frzE_none, frzE_some, a_gN, a_gsNil, a_gsCons, a_gTp, asStr_s, a_strI, asRng_i, a_rng1, asRng2_i, a_rng2, chkOf_d, a_seqI, a_cYes, items_tup, items_lst, litems_lst, ditems_tup, ditems_lst, toD_d, dataAll_nil, dataAll_cons, dataAll_mapd, asD_d, v_ii, v_addI, v_addS, v_addT, v_addL, v_neg, v_ltI, v_ltS, v_eq, v_ne, v_inS, v_notInS, v_ixS, v_ixR, v_ixT, v_ixL, v_cutS, v_cutT, v_cutL, v_lenS, v_lenR, v_lenT, v_lenL, v_abs, v_int1, v_listT, v_listL, v_tupleT, v_tupleL, v_isN, v_notN, isN_non, isN_r, isN_bl, isN_int, isN_str, isN_tup, isN_lst, ty_non, ty_bl, ty_int, ty_str, ty_tup, ty_lst, keyOf_i, keyOf_s, gAddI_i, gSubI_i, index_s, idxKind_s, isDat_d, isDat_r, svB_d, svB_r, moB_lst, moB_dk, natAbs10, asL_l, asK_k, itL_l, liL_l, tdL_l, tdL_k, dsL_k, dsL_l, tyL_l, tyL_k, lstAt_r, dkAt_r, items_r, litems_r, toD_r, dkS_r, dkS_tup, dkS_lst, dkS_dk, dkS_str, tyS_r, v_ixRef, v_lenRef, v_cutRef, ditems_r, v_listRef, v_tupleRef, v_eqRef, v_neRef, v_addRR, v_addRL, v_addLR, finO_nx, finO_rt, finO_bk, finO_ct, isTy_int_NoneType, isTy_int_bool, isTy_int_int, isTy_int_str, isTy_int_tuple, isTy_int_list, isTy_int_dict, isTy_bool_NoneType, isTy_bool_bool, isTy_bool_int, isTy_bool_str, isTy_bool_tuple, isTy_bool_list, isTy_bool_dict, isTy_str_NoneType, isTy_str_bool, isTy_str_int, isTy_str_str, isTy_str_tuple, isTy_str_list, isTy_str_dict, isTy_tuple_NoneType, isTy_tuple_bool, isTy_tuple_int, isTy_tuple_str, isTy_tuple_tuple, isTy_tuple_list, isTy_tuple_dict, isTy_list_NoneType, isTy_list_bool, isTy_list_int, isTy_list_str, isTy_list_tuple, isTy_list_list, isTy_list_dict, isTy_dict_NoneType, isTy_dict_bool, isTy_dict_int, isTy_dict_str, isTy_dict_tuple, isTy_dict_list, isTy_dict_dict, eo_non, eo_bl, eo_int, eo_str, eo_tup, eo_lst, ev_nn, ev_ii, ev_bb, ev_ss, ev_tt, ev_ll, ea_nn, ea_nc, ea_cn, ea_cc, ea_mapd, ev_non_bl, ev_non_int, ev_non_str, ev_non_tup, ev_non_lst, ev_bl_non, ev_bl_str, ev_bl_tup, ev_bl_lst, ev_int_non, ev_int_str, ev_int_tup, ev_int_lst, ev_str_non, ev_str_bl, ev_str_int, ev_str_tup, ev_str_lst, ev_tup_non, ev_tup_bl, ev_tup_int, ev_tup_str, ev_tup_lst, ev_lst_non, ev_lst_bl, ev_lst_int, ev_lst_str, ev_lst_tup, wipeE_nil, wipeE_cons, cast_0, cast_1, cast_2, cast_3, cast_4, cast_5, cast_6, cast_7, cast_8, cast_9, cast_10, cast_11, cast_12, keysOf_nil, keysOf_cons, mergeS_nil, mergeS_cons, inR_s, sz_lt, sz_le, leq_nn, leq_nc, leq_cn, leq_cc, key_ss, key_ii, key_is, key_si, findK_nil, findK_cons, mapS_nil, mapS_cons, putS_nil, putS_cons, Option.bind_some, Option.map_some, Option.bind_none, Option.map_none, List.set_cons_zero, List.set_cons_succ, List.set_nil, List.getElem?_cons_zero, List.getElem?_cons_succ, List.length_cons, List.length_nil, List.nil_append, List.cons_append, List.map_cons, List.map_nil, if_true, if_false, Bool.false_eq_true, reduceIte, List.all_cons, List.all_nil, Bool.and_true, Bool.true_and, Bool.and_false, Bool.false_and, Bool.not_true, Bool.not_false, Bool.or_false, Bool.or_true, Bool.false_or, Bool.true_or, and_self, and_true, true_and, Int.toNat_natCast, decide_true, decide_false, List.take_zero, List.take_nil, List.take_succ_cons, List.drop_succ_cons, List.drop_zero, List.drop_nil, List.set_nil, List.replicate_succ, List.replicate_zero, List.foldl_cons, List.foldl_nil, Nat.reduceSub, Nat.reduceAdd, Nat.reduceLT, Nat.reduceLeDiff, Nat.reduceEqDiff, Nat.reduceMul, Int.reduceAdd, Int.reduceSub, Int.reduceMul, Int.reduceLT, Int.reduceLE, Int.reduceNeg, Int.reducePow, Int.reduceToNat, or_true, true_or, or_false, false_or, false_and, and_false, Nat.reducePow, not_true_eq_false, not_false_eq_true, Nat.add_zero, Nat.zero_add, Nat.sub_self, Nat.sub_zero, reduceCtorEq, Option.map_map, Int.reduceEq, Int.reduceNe, Int.reduceMod, Int.reduceDiv, List.append_nil, rngL_zero, at0, at1, at2, hall]
                exact ⟨_, rfl, okO_d _⟩
              · simp -implicitDefEqProofs only [run_bind, run_some, run_none, run_map, a_var, a_c, a_op, a_un, a_chain, tst_b, a_test, a_and, a_or, a_not, a_andV, a_orV, a_notV, a_if, a_nil, a_cons, a_tup, a_lst, a_new, a_fn, a_isi, a_call, asI_i, a_part, a_noPart, a_cut, a_app, a_ext, a_index, a_sub, a_ps0, a_ps1, a_disp, a_lc, a_tt, a_skip, andThen_nx, andThen_rt, andThen_bk, andThen_ct, a_seq, a_expr, a_ret, a_retN, a_brk, a_cnt, a_ifS, a_set, a_aug, a_asg, two_eq, a_par, a_put, a_daug, a_for, a_scoped, frzO_nx, frzO_bk, frzO_ct, frzO_rt, frzS_d, frzS_r, frzE_nil, frzE_none, frzE_some, a_gN, a_gsNil, a_gsCons, a_gTp, asStr_s, a_strI, asRng_i, a_rng1, asRng2_i, a_rng2, chkOf_d, a_seqI, a_cYes, items_tup, items_lst, litems_lst, ditems_tup, ditems_lst, toD_d, dataAll_nil, dataAll_cons, dataAll_mapd, asD_d, v_ii, v_addI, v_addS, v_addT, v_addL, v_neg, v_ltI, v_ltS, v_eq, v_ne, v_inS, v_notInS, v_ixS, v_ixR, v_ixT, v_ixL, v_cutS, v_cutT, v_cutL, v_lenS, v_lenR, v_lenT, v_lenL, v_abs, v_int1, v_listT, v_listL, v_tupleT, v_tupleL, v_isN, v_notN, isN_non, isN_r, isN_bl, isN_int, isN_str, isN_tup, isN_lst, ty_non, ty_bl, ty_int, ty_str, ty_tup, ty_lst, keyOf_i, keyOf_s, gAddI_i, gSubI_i, index_s, idxKind_s, isDat_d, isDat_r, svB_d, svB_r, moB_lst, moB_dk, natAbs10, asL_l, asK_k, itL_l, liL_l, tdL_l, tdL_k, dsL_k, dsL_l, tyL_l, tyL_k, lstAt_r, dkAt_r, items_r, litems_r, toD_r, dkS_r, dkS_tup, dkS_lst, dkS_dk, dkS_str, tyS_r, v_ixRef, v_lenRef, v_cutRef, ditems_r, v_listRef, v_tupleRef, v_eqRef, v_neRef, v_addRR, v_addRL, v_addLR, finO_nx, finO_rt, finO_bk, finO_ct, isTy_int_NoneType, isTy_int_bool, isTy_int_int, isTy_int_str, isTy_int_tuple, isTy_int_list, isTy_int_dict, isTy_bool_NoneType, isTy_bool_bool, isTy_bool_int, isTy_bool_str, isTy_bool_tuple, isTy_bool_list, isTy_bool_dict, isTy_str_NoneType, isTy_str_bool, isTy_str_int, isTy_str_str, isTy_str_tuple, isTy_str_list, isTy_str_dict, isTy_tuple_NoneType, isTy_tuple_bool, isTy_tuple_int, isTy_tuple_str, isTy_tuple_tuple, isTy_tuple_list, isTy_tuple_dict, isTy_list_NoneType, isTy_list_bool, isTy_list_int, isTy_list_str, isTy_list_tuple, isTy_list_list, isTy_list_dict, isTy_dict_NoneType, isTy_dict_bool, isTy_dict_int, isTy_dict_str, isTy_dict_tuple, isTy_dict_list, isTy_dict_dict, eo_non, eo_bl, eo_int, eo_str, eo_tup, eo_lst, ev_nn, ev_ii, ev_bb, ev_ss, ev_tt, ev_ll, ea_nn, ea_nc, ea_cn, ea_cc, ea_mapd, ev_non_bl, ev_non_int, ev_non_str, ev_non_tup, ev_non_lst, ev_bl_non, ev_bl_str, ev_bl_tup, ev_bl_lst, ev_int_non, ev_int_str, ev_int_tup, ev_int_lst, ev_str_non, ev_str_bl, ev_str_int, ev_str_tup, ev_str_lst, ev_tup_non, ev_tup_bl, ev_tup_int, ev_tup_str, ev_tup_lst, ev_lst_non, ev_lst_bl, ev_lst_int, ev_lst_str, ev_lst_tup, wipeE_nil, wipeE_cons, cast_0, cast_1, cast_2, cast_3, cast_4, cast_5, cast_6, cast_7, cast_8, cast_9, cast_10, cast_11, cast_12, keysOf_nil, keysOf_cons, mergeS_nil, mergeS_cons, inR_s, sz_lt, sz_le, leq_nn, leq_nc, leq_cn, leq_cc, key_ss, key_ii, key_is, key_si, findK_nil, findK_cons, mapS_nil, mapS_cons, putS_nil, putS_cons, Option.bind_some, Option.map_some, Option.bind_none, Option.map_none, List.set_cons_zero, List.set_cons_succ, List.set_nil, List.getElem?_cons_zero, List.getElem?_cons_succ, List.length_cons, List.length_nil, List.nil_append, List.cons_append, List.map_cons, List.map_nil, if_true, if_false, Bool.false_eq_true, reduceIte, List.all_cons, List.all_nil, Bool.and_true, Bool.true_and, Bool.and_false, Bool.false_and, Bool.not_true, Bool.not_false, Bool.or_false, Bool.or_true, Bool.false_or, Bool.true_or, and_self, and_true, true_and, Int.toNat_natCast, decide_true, decide_false, List.take_zero, List.take_nil, List.take_succ_cons, List.drop_succ_cons, List.drop_zero, List.drop_nil, List.set_nil, List.replicate_succ, List.replicate_zero, List.foldl_cons, List.foldl_nil, Nat.reduceSub, Nat.reduceAdd, Nat.reduceLT, Nat.reduceLeDiff, Nat.reduceEqDiff, Nat.reduceMul, Int.reduceAdd, Int.reduceSub, Int.reduceMul, Int.reduceLT, Int.reduceLE, Int.reduceNeg, Int.reducePow, Int.reduceToNat, or_true, true_or, or_false, false_or, false_and, and_false, Nat.reducePow, not_true_eq_false, not_false_eq_true, Nat.add_zero, Nat.zero_add, Nat.sub_self, Nat.sub_zero, reduceCtorEq, Option.map_map, Int.reduceEq, Int.reduceNe, Int.reduceMod, Int.reduceDiv, List.append_nil, rngL_zero, at0, at1, at2, eq_false_of_ne_true hall]
                exact ⟨_, rfl, okO_d _⟩
            · intro y hy
              have e := callM_pure [] (p_pair rows.length y (hp y hy))
              refine ⟨_, rfl, ?_, fun _ => ?_⟩
              · simp -implicitDefEqProofs only [run_bind, run_some, run_none, run_map, a_var, a_c, a_op, a_un, a_chain, tst_b, a_test, a_and, a_or, a_not, a_andV, a_orV, a_notV, a_if, a_nil, a_cons, a_tup, a_lst, a_new, a_fn, a_isi, a_call, asI_i, a_part, a_noPart, a_cut, a_app, a_ext, a_index, a_sub, a_ps0, a_ps1, a_disp, a_lc, a_tt, a_skip, andThen_nx, andThen_rt, andThen_bk, andThen_ct, a_seq, a_expr, a_ret, a_retN, a_brk, a_cnt, a_ifS, a_set, a_aug, a_asg, two_eq, a_par, a_put, a_daug, a_for, a_scoped, frzO_nx, frzO_bk, frzO_ct, frzO_rt, frzS_d, frzS_r, frzE_nil, frzE_none, frzE_some, a_gN, a_gsNil, a_gsCons, a_gTp, asStr_s, a_strI, asRng_i, a_rng1, asRng2_i, a_rng2, chkOf_d, a_seqI, a_cYes, items_tup, items_lst, litems_lst, ditems_tup, ditems_lst, toD_d, dataAll_nil, dataAll_cons, dataAll_mapd, asD_d, v_ii, v_addI, v_addS, v_addT, v_addL, v_neg, v_ltI, v_ltS, v_eq, v_ne, v_inS, v_notInS, v_ixS, v_ixR, v_ixT, v_ixL, v_cutS, v_cutT, v_cutL, v_lenS, v_lenR, v_lenT, v_lenL, v_abs, v_int1, v_listT, v_listL, v_tupleT, v_tupleL, v_isN, v_notN, isN_non, isN_r, isN_bl, isN_int, isN_str, isN_tup, isN_lst, ty_non, ty_bl, ty_int, ty_str, ty_tup, ty_lst, keyOf_i, keyOf_s, gAddI_i, gSubI_i, index_s, idxKind_s, isDat_d, isDat_r, svB_d, svB_r, moB_lst, moB_dk, natAbs10, asL_l, asK_k, itL_l, liL_l, tdL_l, tdL_k, dsL_k, dsL_l, tyL_l, tyL_k, lstAt_r, dkAt_r, items_r, litems_r, toD_r, dkS_r, dkS_tup, dkS_lst, dkS_dk, dkS_str, tyS_r, v_ixRef, v_lenRef, v_cutRef, ditems_r, v_listRef, v_tupleRef, v_eqRef, v_neRef, v_addRR, v_addRL, v_addLR, finO_nx, finO_rt, finO_bk, finO_ct, isTy_int_NoneType, isTy_int_bool, isTy_int_int, isTy_int_str, isTy_int_tuple, isTy_int_list, isTy_int_dict, isTy_bool_NoneType, isTy_bool_bool, isTy_bool_int, isTy_bool_str, isTy_bool_tuple, isTy_bool_list, isTy_bool_dict, isTy_str_NoneType, isTy_str_bool, isTy_str_int, isTy_str_str, isTy_str_tuple, isTy_str_list, isTy_str_dict, isTy_tuple_NoneType, isTy_tuple_bool, isTy_tuple_int, isTy_tuple_str, isTy_tuple_tuple, isTy_tuple_list, isTy_tuple_dict, isTy_list_NoneType, isTy_list_bool, isTy_list_int, isTy_list_str, isTy_list_tuple, isTy_list_list, isTy_list_dict, isTy_dict_NoneType, isTy_dict_bool, isTy_dict_int, isTy_dict_str, isTy_dict_tuple, isTy_dict_list, isTy_dict_dict, eo_non, eo_bl, eo_int, eo_str, eo_tup, eo_lst, ev_nn, ev_ii, ev_bb, ev_ss, ev_tt, ev_ll, ea_nn, ea_nc, ea_cn, ea_cc, ea_mapd, ev_non_bl, ev_non_int, ev_non_str, ev_non_tup, ev_non_lst, ev_bl_non, ev_bl_str, ev_bl_tup, ev_bl_lst, ev_int_non, ev_int_str, ev_int_tup, ev_int_lst, ev_str_non, ev_str_bl, ev_str_int, ev_str_tup, ev_str_lst, ev_tup_non, ev_tup_bl, ev_tup_int, ev_tup_str, ev_tup_lst, ev_lst_non, ev_lst_bl, ev_lst_int, ev_lst_str, ev_lst_tup, wipeE_nil, wipeE_cons, cast_0, cast_1, cast_2, cast_3, cast_4, cast_5, cast_6, cast_7, cast_8, cast_9, cast_10, cast_11, cast_12, keysOf_nil, keysOf_cons, mergeS_nil, mergeS_cons, inR_s, sz_lt, sz_le, leq_nn, leq_nc, leq_cn, leq_cc, key_ss, key_ii, key_is, key_si, findK_nil, findK_cons, mapS_nil, mapS_cons, putS_nil, putS_cons, Option.bind_some, Option.map_some, Option.bind_none, Option.map_none, List.set_cons_zero, List.set_cons_succ, List.set_nil, List.getElem?_cons_zero, List.getElem?_cons_succ, List.length_cons, List.length_nil, List.nil_append, List.cons_append, List.map_cons, List.map_nil, if_true, if_false, Bool.false_eq_true, reduceIte, List.all_cons, List.all_nil, Bool.and_true, Bool.true_and, Bool.and_false, Bool.false_and, Bool.not_true, Bool.not_false, Bool.or_false, Bool.or_true, Bool.false_or, Bool.true_or, and_self, and_true, true_and, Int.toNat_natCast, decide_true, decide_false, List.take_zero, List.take_nil, List.take_succ_cons, List.drop_succ_cons, List.drop_zero, List.drop_nil, List.set_nil, List.replicate_succ, List.replicate_zero, List.foldl_cons, List.foldl_nil, Nat.reduceSub, Nat.reduceAdd, Nat.reduceLT, Nat.reduceLeDiff, Nat.reduceEqDiff, Nat.reduceMul, Int.reduceAdd, Int.reduceSub, Int.reduceMul, Int.reduceLT, Int.reduceLE, Int.reduceNeg, Int.reducePow, Int.reduceToNat, or_true, true_or, or_false, false_or, false_and, and_false, Nat.reducePow, not_true_eq_false, not_false_eq_true, Nat.add_zero, Nat.zero_add, Nat.sub_self, Nat.sub_zero, reduceCtorEq, Option.map_map, Int.reduceEq, Int.reduceNe, Int.reduceMod, Int.reduceDiv, List.append_nil, rngL_zero, at0, at1, at2, e]
              · simp -implicitDefEqProofs only [run_bind, run_some, run_none, run_map, a_var, a_c, a_op, a_un, a_chain, tst_b, a_test, a_and, a_or, a_not, a_andV, a_orV, a_notV, a_if, a_nil, a_cons, a_tup, a_lst, a_new, a_fn, a_isi, a_call, asI_i, a_part, a_noPart, a_cut, a_app, a_ext, a_index, a_sub, a_ps0, a_ps1, a_disp, a_lc, a_tt, a_skip, andThen_nx, andThen_rt, andThen_bk, andThen_ct, a_seq, a_expr, a_ret, a_retN, a_brk, a_cnt, a_ifS, a_set, a_aug, a_asg, two_eq, a_par, a_put, a_daug, a_for, a_scoped, frzO_nx, frzO_bk, frzO_ct, frzO_rt, frzS_d, frzS_r, frzE_nil, frzE_none, frzE_some, a_gN, a_gsNil, a_gsCons, a_gTp, asStr_s, a_strI, asRng_i, a_rng1, asRng2_i, a_rng2, chkOf_d, a_seqI, a_cYes, items_tup, items_lst, litems_lst, ditems_tup, ditems_lst, toD_d, dataAll_nil, dataAll_cons, dataAll_mapd, asD_d, v_ii, v_addI, v_addS, v_addT, v_addL, v_neg, v_ltI, v_ltS, v_eq, v_ne, v_inS, v_notInS, v_ixS, v_ixR, v_ixT, v_ixL, v_cutS, v_cutT, v_cutL, v_lenS, v_lenR, v_lenT, v_lenL, v_abs, v_int1, v_listT, v_listL, v_tupleT, v_tupleL, v_isN, v_notN, isN_non, isN_r, isN_bl, isN_int, isN_str, isN_tup, isN_lst, ty_non, ty_bl, ty_int, ty_str, ty_tup, ty_lst, keyOf_i, keyOf_s, gAddI_i, gSubI_i, index_s, idxKind_s, isDat_d, isDat_r, svB_d, svB_r, moB_lst, moB_dk, natAbs10, asL_l, asK_k, itL_l, liL_l, tdL_l, tdL_k, dsL_k, dsL_l, tyL_l, tyL_k, lstAt_r, dkAt_r, items_r, litems_r, toD_r, dkS_r, dkS_tup, dkS_lst, dkS_dk, dkS_str, tyS_r, v_ixRef, v_lenRef, v_cutRef, ditems_r, v_listRef, v_tupleRef, v_eqRef, v_neRef, v_addRR, v_addRL, v_addLR, finO_nx, finO_rt, finO_bk, finO_ct, isTy_int_NoneType, isTy_int_bool, isTy_int_int, isTy_int_str, isTy_int_tuple, isTy_int_list, isTy_int_dict, isTy_bool_NoneType, isTy_bool_bool, isTy_bool_int, isTy_bool_str, isTy_bool_tuple, isTy_bool_list, isTy_bool_dict, isTy_str_NoneType, isTy_str_bool, isTy_str_int, isTy_str_str, isTy_str_tuple, isTy_str_list, isTy_str_dict, isTy_tuple_NoneType, isTy_tuple_bool, isTy_tuple_int, isTy_tuple_str, isTy_tuple_tuple, isTy_tuple_list, isTy_tuple_dict, isTy_list_NoneType, isTy_list_bool, isTy_list_int, isTy_list_str, isTy_list_tuple, isTy_list_list, isTy_list_dict, isTy_dict_NoneType, isTy_dict_bool, isTy_dict_int, isTy_dict_str, isTy_dict_tuple, isTy_dict_list, isTy_dict_dict, eo_non, eo_bl, eo_int, eo_str, eo_tup, eo_lst, ev_nn, ev_ii, ev_bb, ev_ss, ev_tt, ev_ll, ea_nn, ea_nc, ea_cn, ea_cc, ea_mapd, ev_non_bl, ev_non_int, ev_non_str, ev_non_tup, ev_non_lst, ev_bl_non, ev_bl_str, ev_bl_tup, ev_bl_lst, ev_int_non, ev_int_str, ev_int_tup, ev_int_lst, ev_str_non, ev_str_bl, ev_str_int, ev_str_tup, ev_str_lst, ev_tup_non, ev_tup_bl, ev_tup_int, ev_tup_str, ev_tup_lst, ev_lst_non, ev_lst_bl, ev_lst_int, ev_lst_str, ev_lst_tup, wipeE_nil, wipeE_cons, cast_0, cast_1, cast_2, cast_3, cast_4, cast_5, cast_6, cast_7, cast_8, cast_9, cast_10, cast_11, cast_12, keysOf_nil, keysOf_cons, mergeS_nil, mergeS_cons, inR_s, sz_lt, sz_le, leq_nn, leq_nc, leq_cn, leq_cc, key_ss, key_ii, key_is, key_si, findK_nil, findK_cons, mapS_nil, mapS_cons, putS_nil, putS_cons, Option.bind_some, Option.map_some, Option.bind_none, Option.map_none, List.set_cons_zero, List.set_cons_succ, List.set_nil, List.getElem?_cons_zero, List.getElem?_cons_succ, List.length_cons, List.length_nil, List.nil_append, List.cons_append, List.map_cons, List.map_nil, if_true, if_false, Bool.false_eq_true, reduceIte, List.all_cons, List.all_nil, Bool.and_true, Bool.true_and, Bool.and_false, Bool.false_and, Bool.not_true, Bool.not_false, Bool.or_false, Bool.or_true, Bool.false_or, Bool.true_or, and_self, and_true, true_and, Int.toNat_natCast, decide_true, decide_false, List.take_zero, List.take_nil, List.take_succ_cons, List.drop_succ_cons, List.drop_zero, List.drop_nil, List.set_nil, List.replicate_succ, List.replicate_zero, List.foldl_cons, List.foldl_nil, Nat.reduceSub, Nat.reduceAdd, Nat.reduceLT, Nat.reduceLeDiff, Nat.reduceEqDiff, Nat.reduceMul, Int.reduceAdd, Int.reduceSub, Int.reduceMul, Int.reduceLT, Int.reduceLE, Int.reduceNeg, Int.reducePow, Int.reduceToNat, or_true, true_or, or_false, false_or, false_and, and_false, Nat.reducePow, not_true_eq_false, not_false_eq_true, Nat.add_zero, Nat.zero_add, Nat.sub_self, Nat.sub_zero, reduceCtorEq, Option.map_map, Int.reduceEq, Int.reduceNe, Int.reduceMod, Int.reduceDiv, List.append_nil, rngL_zero, at0, at1, at2, id]
          · have hl2 : ¬ ((ps.length : Int) = s.length) := by omega
            simp -implicitDefEqProofs only [run_bind, run_some, run_none, run_map, a_var, a_c, a_op, a_un, a_chain, tst_b, a_test, a_and, a_or, a_not, a_andV, a_orV, a_notV, a_if, a_nil, a_cons, a_tup, a_lst, a_new, a_fn, a_isi, a_call, asI_i, a_part, a_noPart, a_cut, a_app, a_ext, a_index, a_sub, a_ps0, a_ps1, a_disp, a_lc, a_tt, a_skip, andThen_nx, andThen_rt, andThen_bk, andThen_ct, a_seq, a_expr, a_ret, a_retN, a_brk, a_cnt, a_ifS, a_set, a_aug, a_asg, two_eq, a_par, a_put, a_daug, a_for, a_scoped, frzO_nx, frzO_bk, frzO_ct, frzO_rt, frzS_d, frzS_r, frzE_nil, frzE_none, frzE_some, a_gN, a_gsNil, a_gsCons, a_gTp, asStr_s, a_strI, asRng_i, a_rng1, asRng2_i, a_rng2, chkOf_d, a_seqI, a_cYes, items_tup, items_lst, litems_lst, ditems_tup, ditems_lst, toD_d, dataAll_nil, dataAll_cons, dataAll_mapd, asD_d, v_ii, v_addI, v_addS, v_addT, v_addL, v_neg, v_ltI, v_ltS, v_eq, v_ne, v_inS, v_notInS, v_ixS, v_ixR, v_ixT, v_ixL, v_cutS, v_cutT, v_cutL, v_lenS, v_lenR, v_lenT, v_lenL, v_abs, v_int1, v_listT, v_listL, v_tupleT, v_tupleL, v_isN, v_notN, isN_non, isN_r, isN_bl, isN_int, isN_str, isN_tup, isN_lst, ty_non, ty_bl, ty_int, ty_str, ty_tup, ty_lst, keyOf_i, keyOf_s, gAddI_i, gSubI_i, index_s, idxKind_s, isDat_d, isDat_r, svB_d, svB_r, moB_lst, moB_dk, natAbs10, asL_l, asK_k, itL_l, liL_l, tdL_l, tdL_k, dsL_k, dsL_l, tyL_l, tyL_k, lstAt_r, dkAt_r, items_r, litems_r, toD_r, dkS_r, dkS_tup, dkS_lst, dkS_dk, dkS_str, tyS_r, v_ixRef, v_lenRef, v_cutRef, ditems_r, v_listRef, v_tupleRef, v_eqRef, v_neRef, v_addRR, v_addRL, v_addLR, finO_nx, finO_rt, finO_bk, finO_ct, isTy_int_NoneType, isTy_int_bool, isTy_int_int, isTy_int_str, isTy_int_tuple, isTy_int_list, isTy_int_dict, isTy_bool_NoneType, isTy_bool_bool, isTy_bool_int, isTy_bool_str, isTy_bool_tuple, isTy_bool_list, isTy_bool_dict, isTy_str_NoneType, isTy_str_bool, isTy_str_int, isTy_str_str, isTy_str_tuple, isTy_str_list, isTy_str_dict, isTy_tuple_NoneType, isTy_tuple_bool, isTy_tuple_int, isTy_tuple_str, isTy_tuple_tuple, isTy_tuple_list, isTy_tuple_dict, isTy_list_NoneType, isTy_list_bool, isTy_list_int, isTy_list_str, isTy_list_tuple, isTy_list_list, isTy_list_dict, isTy_dict_NoneType, isTy_dict_bool, isTy_dict_int, isTy_dict_str, isTy_dict_tuple, isTy_dict_list, isTy_dict_dict, eo_non, eo_bl, eo_int, eo_str, eo_tup, eo_lst, ev_nn, ev_ii, ev_bb, ev_ss, ev_tt, ev_ll, ea_nn, ea_nc, ea_cn, ea_cc, ea_mapd, ev_non_bl, ev_non_int, ev_non_str, ev_non_tup, ev_non_lst, ev_bl_non, ev_bl_str, ev_bl_tup, ev_bl_lst, ev_int_non, ev_int_str, ev_int_tup, ev_int_lst, ev_str_non, ev_str_bl, ev_str_int, ev_str_tup, ev_str_lst, ev_tup_non, ev_tup_bl, ev_tup_int, ev_tup_str, ev_tup_lst, ev_lst_non, ev_lst_bl, ev_lst_int, ev_lst_str, ev_lst_tup, wipeE_nil, wipeE_cons, cast_0, cast_1, cast_2, cast_3, cast_4, cast_5, cast_6, cast_7, cast_8, cast_9, cast_10, cast_11, cast_12, keysOf_nil, keysOf_cons, mergeS_nil, mergeS_cons, inR_s, sz_lt, sz_le, leq_nn, leq_nc, leq_cn, leq_cc, key_ss, key_ii, key_is, key_si, findK_nil, findK_cons, mapS_nil, mapS_cons, putS_nil, putS_cons, Option.bind_some, Option.map_some, Option.bind_none, Option.map_none, List.set_cons_zero, List.set_cons_succ, List.set_nil, List.getElem?_cons_zero, List.getElem?_cons_succ, List.length_cons, List.length_nil, List.nil_append, List.cons_append, List.map_cons, List.map_nil, if_true, if_false, Bool.false_eq_true, reduceIte, List.all_cons, List.all_nil, Bool.and_true, Bool.true_and, Bool.and_false, Bool.false_and, Bool.not_true, Bool.not_false, Bool.or_false, Bool.or_true, Bool.false_or, Bool.true_or, and_self, and_true, true_and, Int.toNat_natCast, decide_true, decide_false, List.take_zero, List.take_nil, List.take_succ_cons, List.drop_succ_cons, List.drop_zero, List.drop_nil, List.set_nil, List.replicate_succ, List.replicate_zero, List.foldl_cons, List.foldl_nil, Nat.reduceSub, Nat.reduceAdd, Nat.reduceLT, Nat.reduceLeDiff, Nat.reduceEqDiff, Nat.reduceMul, Int.reduceAdd, Int.reduceSub, Int.reduceMul, Int.reduceLT, Int.reduceLE, Int.reduceNeg, Int.reducePow, Int.reduceToNat, or_true, true_or, or_false, false_or, false_and, and_false, Nat.reducePow, not_true_eq_false, not_false_eq_true, Nat.add_zero, Nat.zero_add, Nat.sub_self, Nat.sub_zero, reduceCtorEq, Option.map_map, Int.reduceEq, Int.reduceNe, Int.reduceMod, Int.reduceDiv, List.append_nil, rngL_zero, at0, at1, at2, rowD, hl, hl2]
            exact ⟨_, rfl, okO_d _⟩
        | _ => simp -implicitDefEqProofs only [run_bind, run_some, run_none, run_map, a_var, a_c, a_op, a_un, a_chain, tst_b, a_test, a_and, a_or, a_not, a_andV, a_orV, a_notV, a_if, a_nil, a_cons, a_tup, a_lst, a_new, a_fn, a_isi, a_call, asI_i, a_part, a_noPart, a_cut, a_app, a_ext, a_index, a_sub, a_ps0, a_ps1, a_disp, a_lc, a_tt, a_skip, andThen_nx, andThen_rt, andThen_bk, andThen_ct, a_seq, a_expr, a_ret, a_retN, a_brk, a_cnt, a_ifS, a_set, a_aug, a_asg, two_eq, a_par, a_put, a_daug, a_for, a_scoped, frzO_nx, frzO_bk, frzO_ct, frzO_rt, frzS_d, frzS_r, frzE_nil, frzE_none, frzE_some, a_gN, a_gsNil, a_gsCons, a_gTp, asStr_s, a_strI, asRng_i, a_rng1, asRng2_i, a_rng2, chkOf_d, a_seqI, a_cYes, items_tup, items_lst, litems_lst, ditems_tup, ditems_lst, toD_d, dataAll_nil, dataAll_cons, dataAll_mapd, asD_d, v_ii, v_addI, v_addS, v_addT, v_addL, v_neg, v_ltI, v_ltS, v_eq, v_ne, v_inS, v_notInS, v_ixS, v_ixR, v_ixT, v_ixL, v_cutS, v_cutT, v_cutL, v_lenS, v_lenR, v_lenT, v_lenL, v_abs, v_int1, v_listT, v_listL, v_tupleT, v_tupleL, v_isN, v_notN, isN_non, isN_r, isN_bl, isN_int, isN_str, isN_tup, isN_lst, ty_non, ty_bl, ty_int, ty_str, ty_tup, ty_lst, keyOf_i, keyOf_s, gAddI_i, gSubI_i, index_s, idxKind_s, isDat_d, isDat_r, svB_d, svB_r, moB_lst, moB_dk, natAbs10, asL_l, asK_k, itL_l, liL_l, tdL_l, tdL_k, dsL_k, dsL_l, tyL_l, tyL_k, lstAt_r, dkAt_r, items_r, litems_r, toD_r, dkS_r, dkS_tup, dkS_lst, dkS_dk, dkS_str, tyS_r, v_ixRef, v_lenRef, v_cutRef, ditems_r, v_listRef, v_tupleRef, v_eqRef, v_neRef, v_addRR, v_addRL, v_addLR, finO_nx, finO_rt, finO_bk, finO_ct, isTy_int_NoneType, isTy_int_bool, isTy_int_int, isTy_int_str, isTy_int_tuple, isTy_int_list, isTy_int_dict, isTy_bool_NoneType, isTy_bool_bool, isTy_bool_int, isTy_bool_str, isTy_bool_tuple, isTy_bool_list, isTy_bool_dict, isTy_str_NoneType, isTy_str_bool, isTy_str_int, isTy_str_str, isTy_str_tuple, isTy_str_list, isTy_str_dict, isTy_tuple_NoneType, isTy_tuple_bool, isTy_tuple_int, isTy_tuple_str, isTy_tuple_tuple, isTy_tuple_list, isTy_tuple_dict, isTy_list_NoneType, isTy_list_bool, isTy_list_int, isTy_list_str, isTy_list_tuple, isTy_list_list, isTy_list_dict, isTy_dict_NoneType, isTy_dict_bool, isTy_dict_int, isTy_dict_str, isTy_dict_tuple, isTy_dict_list, isTy_dict_dict, eo_non, eo_bl, eo_int, eo_str, eo_tup, eo_lst, ev_nn, ev_ii, ev_bb, ev_ss, ev_tt, ev_ll, ea_nn, ea_nc, ea_cn, ea_cc, ea_mapd, ev_non_bl, ev_non_int, ev_non_str, ev_non_tup, ev_non_lst, ev_bl_non, ev_bl_str, ev_bl_tup, ev_bl_lst, ev_int_non, ev_int_str, ev_int_tup, ev_int_lst, ev_str_non, ev_str_bl, ev_str_int, ev_str_tup, ev_str_lst, ev_tup_non, ev_tup_bl, ev_tup_int, ev_tup_str, ev_tup_lst, ev_lst_non, ev_lst_bl, ev_lst_int, ev_lst_str, ev_lst_tup, wipeE_nil, wipeE_cons, cast_0, cast_1, cast_2, cast_3, cast_4, cast_5, cast_6, cast_7, cast_8, cast_9, cast_10, cast_11, cast_12, keysOf_nil, keysOf_cons, mergeS_nil, mergeS_cons, inR_s, sz_lt, sz_le, leq_nn, leq_nc, leq_cn, leq_cc, key_ss, key_ii, key_is, key_si, findK_nil, findK_cons, mapS_nil, mapS_cons, putS_nil, putS_cons, Option.bind_some, Option.map_some, Option.bind_none, Option.map_none, List.set_cons_zero, List.set_cons_succ, List.set_nil, List.getElem?_cons_zero, List.getElem?_cons_succ, List.length_cons, List.length_nil, List.nil_append, List.cons_append, List.map_cons, List.map_nil, if_true, if_false, Bool.false_eq_true, reduceIte, List.all_cons, List.all_nil, Bool.and_true, Bool.true_and, Bool.and_false, Bool.false_and, Bool.not_true, Bool.not_false, Bool.or_false, Bool.or_true, Bool.false_or, Bool.true_or, and_self, and_true, true_and, Int.toNat_natCast, decide_true, decide_false, List.take_zero, List.take_nil, List.take_succ_cons, List.drop_succ_cons, List.drop_zero, List.drop_nil, List.set_nil, List.replicate_succ, List.replicate_zero, List.foldl_cons, List.foldl_nil, Nat.reduceSub, Nat.reduceAdd, Nat.reduceLT, Nat.reduceLeDiff, Nat.reduceEqDiff, Nat.reduceMul, Int.reduceAdd, Int.reduceSub, Int.reduceMul, Int.reduceLT, Int.reduceLE, Int.reduceNeg, Int.reducePow, Int.reduceToNat, or_true, true_or, or_false, false_or, false_and, and_false, Nat.reducePow, not_true_eq_false, not_false_eq_true, Nat.add_zero, Nat.zero_add, Nat.sub_self, Nat.sub_zero, reduceCtorEq, Option.map_map, Int.reduceEq, Int.reduceNe, Int.reduceMod, Int.reduceDiv, List.append_nil, rngL_zero, at0, at1, at2, rowD]; exact ⟨_, rfl, okO_d _⟩
      · rintro ⟨o, δ, st⟩ ⟨h1, ⟨o2, h2, k2⟩, h3⟩
        dsimp only at h1 h2 h3
        subst h1 h2 h3
        cases hall : rows.all (rowD s.length rows.length) <;> simp -implicitDefEqProofs only [run_bind, run_some, run_none, run_map, a_var, a_c, a_op, a_un, a_chain, tst_b, a_test, a_and, a_or, a_not, a_andV, a_orV, a_notV, a_if, a_nil, a_cons, a_tup, a_lst, a_new, a_fn, a_isi, a_call, asI_i, a_part, a_noPart, a_cut, a_app, a_ext, a_index, a_sub, a_ps0, a_ps1, a_disp, a_lc, a_tt, a_skip, andThen_nx, andThen_rt, andThen_bk, andThen_ct, a_seq, a_expr, a_ret, a_retN, a_brk, a_cnt, a_ifS, a_set, a_aug, a_asg, two_eq, a_par, a_put, a_daug, a_for, a_scoped, frzO_nx, frzO_bk, frzO_ct, frzO_rt, frzS_d, frzS_r, frzE_nil, frzE_none, frzE_some, a_gN, a_gsNil, a_gsCons, a_gTp, asStr_s, a_strI, asRng_i, a_rng1, asRng2_i, a_rng2, chkOf_d, a_seqI, a_cYes, items_tup, items_lst, litems_lst, ditems_tup, ditems_lst, toD_d, dataAll_nil, dataAll_cons, dataAll_mapd, asD_d, v_ii, v_addI, v_addS, v_addT, v_addL, v_neg, v_ltI, v_ltS, v_eq, v_ne, v_inS, v_notInS, v_ixS, v_ixR, v_ixT, v_ixL, v_cutS, v_cutT, v_cutL, v_lenS, v_lenR, v_lenT, v_lenL, v_abs, v_int1, v_listT, v_listL, v_tupleT, v_tupleL, v_isN, v_notN, isN_non, isN_r, isN_bl, isN_int, isN_str, isN_tup, isN_lst, ty_non, ty_bl, ty_int, ty_str, ty_tup, ty_lst, keyOf_i, keyOf_s, gAddI_i, gSubI_i, index_s, idxKind_s, isDat_d, isDat_r, svB_d, svB_r, moB_lst, moB_dk, natAbs10, asL_l, asK_k, itL_l, liL_l, tdL_l, tdL_k, dsL_k, dsL_l, tyL_l, tyL_k, lstAt_r, dkAt_r, items_r, litems_r, toD_r, dkS_r, dkS_tup, dkS_lst, dkS_dk, dkS_str, tyS_r, v_ixRef, v_lenRef, v_cutRef, ditems_r, v_listRef, v_tupleRef, v_eqRef, v_neRef, v_addRR, v_addRL, v_addLR, finO_nx, finO_rt, finO_bk, finO_ct, isTy_int_NoneType, isTy_int_bool, isTy_int_int, isTy_int_str, isTy_int_tuple, isTy_int_list, isTy_int_dict, isTy_bool_NoneType, isTy_bool_bool, isTy_bool_int, isTy_bool_str, isTy_bool_tuple, isTy_bool_list, isTy_bool_dict, isTy_str_NoneType, isTy_str_bool, isTy_str_int, isTy_str_str, isTy_str_tuple, isTy_str_list, isTy_str_dict, isTy_tuple_NoneType, isTy_tuple_bool, isTy_tuple_int, isTy_tuple_str, isTy_tuple_tuple, isTy_tuple_list, isTy_tuple_dict, isTy_list_NoneType, isTy_list_bool, isTy_list_int, isTy_list_str, isTy_list_tuple, isTy_list_list, isTy_list_dict, isTy_dict_NoneType, isTy_dict_bool, isTy_dict_int, isTy_dict_str, isTy_dict_tuple, isTy_dict_list, isTy_dict_dict, eo_non, eo_bl, eo_int, eo_str, eo_tup, eo_lst, ev_nn, ev_ii, ev_bb, ev_ss, ev_tt, ev_ll, ea_nn, ea_nc, ea_cn, ea_cc, ea_mapd, ev_non_bl, ev_non_int, ev_non_str, ev_non_tup, ev_non_lst, ev_bl_non, ev_bl_str, ev_bl_tup, ev_bl_lst, ev_int_non, ev_int_str, ev_int_tup, ev_int_lst, ev_str_non, ev_str_bl, ev_str_int, ev_str_tup, ev_str_lst, ev_tup_non, ev_tup_bl, ev_tup_int, ev_tup_str, ev_tup_lst, ev_lst_non, ev_lst_bl, ev_lst_int, ev_lst_str, ev_lst_tup, wipeE_nil, wipeE_cons, cast_0, cast_1, cast_2, cast_3, cast_4, cast_5, cast_6, cast_7, cast_8, cast_9, cast_10, cast_11, cast_12, keysOf_nil, keysOf_cons, mergeS_nil, mergeS_cons, inR_s, sz_lt, sz_le, leq_nn, leq_nc, leq_cn, leq_cc, key_ss, key_ii, key_is, key_si, findK_nil, findK_cons, mapS_nil, mapS_cons, putS_nil, putS_cons, Option.bind_some, Option.map_some, Option.bind_none, Option.map_none, List.set_cons_zero, List.set_cons_succ, List.set_nil, List.getElem?_cons_zero, List.getElem?_cons_succ, List.length_cons, List.length_nil, List.nil_append, List.cons_append, List.map_cons, List.map_nil, if_true, if_false, Bool.false_eq_true, reduceIte, List.all_cons, List.all_nil, Bool.and_true, Bool.true_and, Bool.and_false, Bool.false_and, Bool.not_true, Bool.not_false, Bool.or_false, Bool.or_true, Bool.false_or, Bool.true_or, and_self, and_true, true_and, Int.toNat_natCast, decide_true, decide_false, List.take_zero, List.take_nil, List.take_succ_cons, List.drop_succ_cons, List.drop_zero, List.drop_nil, List.set_nil, List.replicate_succ, List.replicate_zero, List.foldl_cons, List.foldl_nil, Nat.reduceSub, Nat.reduceAdd, Nat.reduceLT, Nat.reduceLeDiff, Nat.reduceEqDiff, Nat.reduceMul, Int.reduceAdd, Int.reduceSub, Int.reduceMul, Int.reduceLT, Int.reduceLE, Int.reduceNeg, Int.reducePow, Int.reduceToNat, or_true, true_or, or_false, false_or, false_and, and_false, Nat.reducePow, not_true_eq_false, not_false_eq_true, Nat.add_zero, Nat.zero_add, Nat.sub_self, Nat.sub_zero, reduceCtorEq, Option.map_map, Int.reduceEq, Int.reduceNe, Int.reduceMod, Int.reduceDiv, List.append_nil, rngL_zero, at0, at1, at2, boxD, hne, hall, frzE_okO k2]
  | _ => simp -implicitDefEqProofs only [run_bind, run_some, run_none, run_map, a_var, a_c, a_op, a_un, a_chain, tst_b, a_test, a_and, a_or, a_not, a_andV, a_orV, a_notV, a_if, a_nil, a_cons, a_tup, a_lst, a_new, a_fn, a_isi, a_call, asI_i, a_part, a_noPart, a_cut, a_app, a_ext, a_index, a_sub, a_ps0, a_ps1, a_disp, a_lc, a_tt, a_skip, andThen_nx, andThen_rt, andThen_bk, andThen_ct, a_seq, a_expr, a_ret, a_retN, a_brk, a_cnt, a_ifS, a_set, a_aug, a_asg, two_eq, a_par, a_put, a_daug, a_for, a_scoped, frzO_nx, frzO_bk, frzO_ct, frzO_rt, frzS_d, frzS_r, frzE_nil, frzE_none, frzE_some, a_gN, a_gsNil, a_gsCons, a_gTp, asStr_s, a_strI, asRng_i, a_rng1, asRng2_i, a_rng2, chkOf_d, a_seqI, a_cYes, items_tup, items_lst, litems_lst, ditems_tup, ditems_lst, toD_d, dataAll_nil, dataAll_cons, dataAll_mapd, asD_d, v_ii, v_addI, v_addS, v_addT, v_addL, v_neg, v_ltI, v_ltS, v_eq, v_ne, v_inS, v_notInS, v_ixS, v_ixR, v_ixT, v_ixL, v_cutS, v_cutT, v_cutL, v_lenS, v_lenR, v_lenT, v_lenL, v_abs, v_int1, v_listT, v_listL, v_tupleT, v_tupleL, v_isN, v_notN, isN_non, isN_r, isN_bl, isN_int, isN_str, isN_tup, isN_lst, ty_non, ty_bl, ty_int, ty_str, ty_tup, ty_lst, keyOf_i, keyOf_s, gAddI_i, gSubI_i, index_s, idxKind_s, isDat_d, isDat_r, svB_d, svB_r, moB_lst, moB_dk, natAbs10, asL_l, asK_k, itL_l, liL_l, tdL_l, tdL_k, dsL_k, dsL_l, tyL_l, tyL_k, lstAt_r, dkAt_r, items_r, litems_r, toD_r, dkS_r, dkS_tup, dkS_lst, dkS_dk, dkS_str, tyS_r, v_ixRef, v_lenRef, v_cutRef, ditems_r, v_listRef, v_tupleRef, v_eqRef, v_neRef, v_addRR, v_addRL, v_addLR, finO_nx, finO_rt, finO_bk, finO_ct, isTy_int_NoneType, isTy_int_bool, isTy_int_int, isTy_int_str, isTy_int_tuple, isTy_int_list, isTy_int_dict, isTy_bool_NoneType, isTy_bool_bool, isTy_bool_int, isTy_bool_str, isTy_bool_tuple, isTy_bool_list, isTy_bool_dict, isTy_str_NoneType, isTy_str_bool, isTy_str_int, isTy_str_str, isTy_str_tuple, isTy_str_list, isTy_str_dict, isTy_tuple_NoneType, isTy_tuple_bool, isTy_tuple_int, isTy_tuple_str, isTy_tuple_tuple, isTy_tuple_list, isTy_tuple_dict, isTy_list_NoneType, isTy_list_bool, isTy_list_int, isTy_list_str, isTy_list_tuple, isTy_list_list, isTy_list_dict, isTy_dict_NoneType, isTy_dict_bool, isTy_dict_int, isTy_dict_str, isTy_dict_tuple, isTy_dict_list, isTy_dict_dict, eo_non, eo_bl, eo_int, eo_str, eo_tup, eo_lst, ev_nn, ev_ii, ev_bb, ev_ss, ev_tt, ev_ll, ea_nn, ea_nc, ea_cn, ea_cc, ea_mapd, ev_non_bl, ev_non_int, ev_non_str, ev_non_tup, ev_non_lst, ev_bl_non, ev_bl_str, ev_bl_tup, ev_bl_lst, ev_int_non, ev_int_str, ev_int_tup, ev_int_lst, ev_str_non, ev_str_bl, ev_str_int, ev_str_tup, ev_str_lst, ev_tup_non, ev_tup_bl, ev_tup_int, ev_tup_str, ev_tup_lst, ev_lst_non, ev_lst_bl, ev_lst_int, ev_lst_str, ev_lst_tup, wipeE_nil, wipeE_cons, cast_0, cast_1, cast_2, cast_3, cast_4, cast_5, cast_6, cast_7, cast_8, cast_9, cast_10, cast_11, cast_12, keysOf_nil, keysOf_cons, mergeS_nil, mergeS_cons, inR_s, sz_lt, sz_le, leq_nn, leq_nc, leq_cn, leq_cc, key_ss, key_ii, key_is, key_si, findK_nil, findK_cons, mapS_nil, mapS_cons, putS_nil, putS_cons, Option.bind_some, Option.map_some, Option.bind_none, Option.map_none, List.set_cons_zero, List.set_cons_succ, List.set_nil, List.getElem?_cons_zero, List.getElem?_cons_succ, List.length_cons, List.length_nil, List.nil_append, List.cons_append, List.map_cons, List.map_nil, if_true, if_false, Bool.false_eq_true, reduceIte, List.all_cons, List.all_nil, Bool.and_true, Bool.true_and, Bool.and_false, Bool.false_and, Bool.not_true, Bool.not_false, Bool.or_false, Bool.or_true, Bool.false_or, Bool.true_or, and_self, and_true, true_and, Int.toNat_natCast, decide_true, decide_false, List.take_zero, List.take_nil, List.take_succ_cons, List.drop_succ_cons, List.drop_zero, List.drop_nil, List.set_nil, List.replicate_succ, List.replicate_zero, List.foldl_cons, List.foldl_nil, Nat.reduceSub, Nat.reduceAdd, Nat.reduceLT, Nat.reduceLeDiff, Nat.reduceEqDiff, Nat.reduceMul, Int.reduceAdd, Int.reduceSub, Int.reduceMul, Int.reduceLT, Int.reduceLE, Int.reduceNeg, Int.reducePow, Int.reduceToNat, or_true, true_or, or_false, false_or, false_and, and_false, Nat.reducePow, not_true_eq_false, not_false_eq_true, Nat.add_zero, Nat.zero_add, Nat.sub_self, Nat.sub_zero, reduceCtorEq, Option.map_map, Int.reduceEq, Int.reduceNe, Int.reduceMod, Int.reduceDiv, List.append_nil, rngL_zero, at0, at1, at2, boxD]
/-! ### the draws -/
theorem p_box {w : MO} (h : wM w) {ord : List Nat} (hn : ord.length ≤ 100) : DL.Run (F__law_box [.r 0, .d (.str ord), .d (.int 4)] [w]) fun p => ∃ (b : Bx) (w' : MO), p = (.d (bD b), [w']) ∧ wM w' ∧ okB b ord.length := by
  unfold F__law_box g__law_box
  rw [a_runF]
  simp -implicitDefEqProofs only [run_bind, run_some, run_none, run_map, a_var, a_c, a_op, a_un, a_chain, tst_b, a_test, a_and, a_or, a_not, a_andV, a_orV, a_notV, a_if, a_nil, a_cons, a_tup, a_lst, a_new, a_fn, a_isi, a_call, asI_i, a_part, a_noPart, a_cut, a_app, a_ext, a_index, a_sub, a_ps0, a_ps1, a_disp, a_lc, a_tt, a_skip, andThen_nx, andThen_rt, andThen_bk, andThen_ct, a_seq, a_expr, a_ret, a_retN, a_brk, a_cnt, a_ifS, a_set, a_aug, a_asg, two_eq, a_par, a_put, a_daug, a_for, a_scoped, frzO_nx, frzO_bk, frzO_ct, frzO_rt, frzS_d, frzS_r, frzE_nil, frzE_none, frzE_some, a_gN, a_gsNil, a_gsCons, a_gTp, asStr_s, a_strI, asRng_i, a_rng1, asRng2_i, a_rng2, chkOf_d, a_seqI, a_cYes, items_tup, items_lst, litems_lst, ditems_tup, ditems_lst, toD_d, dataAll_nil, dataAll_cons, dataAll_mapd, asD_d, v_ii, v_addI, v_addS, v_addT, v_addL, v_neg, v_ltI, v_ltS, v_eq, v_ne, v_inS, v_notInS, v_ixS, v_ixR, v_ixT, v_ixL, v_cutS, v_cutT, v_cutL, v_lenS, v_lenR, v_lenT, v_lenL, v_abs, v_int1, v_listT, v_listL, v_tupleT, v_tupleL, v_isN, v_notN, isN_non, isN_r, isN_bl, isN_int, isN_str, isN_tup, isN_lst, ty_non, ty_bl, ty_int, ty_str, ty_tup, ty_lst, keyOf_i, keyOf_s, gAddI_i, gSubI_i, index_s, idxKind_s, isDat_d, isDat_r, svB_d, svB_r, moB_lst, moB_dk, natAbs10, asL_l, asK_k, itL_l, liL_l, tdL_l, tdL_k, dsL_k, dsL_l, tyL_l, tyL_k, lstAt_r, dkAt_r, items_r, litems_r, toD_r, dkS_r, dkS_tup, dkS_lst, dkS_dk, dkS_str, tyS_r, v_ixRef, v_lenRef, v_cutRef, ditems_r, v_listRef, v_tupleRef, v_eqRef, v_neRef, v_addRR, v_addRL, v_addLR, finO_nx, finO_rt, finO_bk, finO_ct, isTy_int_NoneType, isTy_int_bool, isTy_int_int, isTy_int_str, isTy_int_tuple, isTy_int_list, isTy_int_dict, isTy_bool_NoneType, isTy_bool_bool, isTy_bool_int, isTy_bool_str, isTy_bool_tuple, isTy_bool_list, isTy_bool_dict, isTy_str_NoneType, isTy_str_bool, isTy_str_int, isTy_str_str, isTy_str_tuple, isTy_str_list, isTy_str_dict, isTy_tuple_NoneType, isTy_tuple_bool, isTy_tuple_int, isTy_tuple_str, isTy_tuple_tuple, isTy_tuple_list, isTy_tuple_dict, isTy_list_NoneType, isTy_list_bool, isTy_list_int, isTy_list_str, isTy_list_tuple, isTy_list_list, isTy_list_dict, isTy_dict_NoneType, isTy_dict_bool, isTy_dict_int, isTy_dict_str, isTy_dict_tuple, isTy_dict_list, isTy_dict_dict, eo_non, eo_bl, eo_int, eo_str, eo_tup, eo_lst, ev_nn, ev_ii, ev_bb, ev_ss, ev_tt, ev_ll, ea_nn, ea_nc, ea_cn, ea_cc, ea_mapd, ev_non_bl, ev_non_int, ev_non_str, ev_non_tup, ev_non_lst, ev_bl_non, ev_bl_str, ev_bl_tup, ev_bl_lst, ev_int_non, ev_int_str, ev_int_tup, ev_int_lst, ev_str_non, ev_str_bl, ev_str_int, ev_str_tup, ev_str_lst, ev_tup_non, ev_tup_bl, ev_tup_int, ev_tup_str, ev_tup_lst, ev_lst_non, ev_lst_bl, ev_lst_int, ev_lst_str, ev_lst_tup, wipeE_nil, wipeE_cons, cast_0, cast_1, cast_2, cast_3, cast_4, cast_5, cast_6, cast_7, cast_8, cast_9, cast_10, cast_11, cast_12, keysOf_nil, keysOf_cons, mergeS_nil, mergeS_cons, inR_s, sz_lt, sz_le, leq_nn, leq_nc, leq_cn, leq_cc, key_ss, key_ii, key_is, key_si, findK_nil, findK_cons, mapS_nil, mapS_cons, putS_nil, putS_cons, Option.bind_some, Option.map_some, Option.bind_none, Option.map_none, List.set_cons_zero, List.set_cons_succ, List.set_nil, List.getElem?_cons_zero, List.getElem?_cons_succ, List.length_cons, List.length_nil, List.nil_append, List.cons_append, List.map_cons, List.map_nil, if_true, if_false, Bool.false_eq_true, reduceIte, List.all_cons, List.all_nil, Bool.and_true, Bool.true_and, Bool.and_false, Bool.false_and, Bool.not_true, Bool.not_false, Bool.or_false, Bool.or_true, Bool.false_or, Bool.true_or, and_self, and_true, true_and, Int.toNat_natCast, decide_true, decide_false, List.take_zero, List.take_nil, List.take_succ_cons, List.drop_succ_cons, List.drop_zero, List.drop_nil, List.set_nil, List.replicate_succ, List.replicate_zero, List.foldl_cons, List.foldl_nil, Nat.reduceSub, Nat.reduceAdd, Nat.reduceLT, Nat.reduceLeDiff, Nat.reduceEqDiff, Nat.reduceMul, Int.reduceAdd, Int.reduceSub, Int.reduceMul, Int.reduceLT, Int.reduceLE, Int.reduceNeg, Int.reducePow, Int.reduceToNat, or_true, true_or, or_false, false_or, false_and, and_false, Nat.reducePow, not_true_eq_false, not_false_eq_true, Nat.add_zero, Nat.zero_add, Nat.sub_self, Nat.sub_zero, reduceCtorEq, Option.map_map, Int.reduceEq, Int.reduceNe, Int.reduceMod, Int.reduceDiv, List.append_nil, rngL_zero, at0, at1, at2]
  refine (c_next h [] 4 (by omega)).mono ?_
  rintro p ⟨n, w1, rfl, n0, n4, h1⟩
  obtain ⟨n, rfl⟩ := Int.eq_ofNat_of_zero_le n0
  simp -implicitDefEqProofs only [run_bind, run_some, run_none, run_map, a_var, a_c, a_op, a_un, a_chain, tst_b, a_test, a_and, a_or, a_not, a_andV, a_orV, a_notV, a_if, a_nil, a_cons, a_tup, a_lst, a_new, a_fn, a_isi, a_call, asI_i, a_part, a_noPart, a_cut, a_app, a_ext, a_index, a_sub, a_ps0, a_ps1, a_disp, a_lc, a_tt, a_skip, andThen_nx, andThen_rt, andThen_bk, andThen_ct, a_seq, a_expr, a_ret, a_retN, a_brk, a_cnt, a_ifS, a_set, a_aug, a_asg, two_eq, a_par, a_put, a_daug, a_for, a_scoped, frzO_nx, frzO_bk, frzO_ct, frzO_rt, frzS_d, frzS_r, frzE_nil, frzE_none, frzE_some, a_gN, a_gsNil, a_gsCons, a_gTp, asStr_s, a_strI, asRng_i, a_rng1, asRng2_i, a_rng2, chkOf_d, a_seqI, a_cYes, items_tup, items_lst, litems_lst, ditems_tup, ditems_lst, toD_d, dataAll_nil, dataAll_cons, dataAll_mapd, asD_d, v_ii, v_addI, v_addS, v_addT, v_addL, v_neg, v_ltI, v_ltS, v_eq, v_ne, v_inS, v_notInS, v_ixS, v_ixR, v_ixT, v_ixL, v_cutS, v_cutT, v_cutL, v_lenS, v_lenR, v_lenT, v_lenL, v_abs, v_int1, v_listT, v_listL, v_tupleT, v_tupleL, v_isN, v_notN, isN_non, isN_r, isN_bl, isN_int, isN_str, isN_tup, isN_lst, ty_non, ty_bl, ty_int, ty_str, ty_tup, ty_lst, keyOf_i, keyOf_s, gAddI_i, gSubI_i, index_s, idxKind_s, isDat_d, isDat_r, svB_d, svB_r, moB_lst, moB_dk, natAbs10, asL_l, asK_k, itL_l, liL_l, tdL_l, tdL_k, dsL_k, dsL_l, tyL_l, tyL_k, lstAt_r, dkAt_r, items_r, litems_r, toD_r, dkS_r, dkS_tup, dkS_lst, dkS_dk, dkS_str, tyS_r, v_ixRef, v_lenRef, v_cutRef, ditems_r, v_listRef, v_tupleRef, v_eqRef, v_neRef, v_addRR, v_addRL, v_addLR, finO_nx, finO_rt, finO_bk, finO_ct, isTy_int_NoneType, isTy_int_bool, isTy_int_int, isTy_int_str, isTy_int_tuple, isTy_int_list, isTy_int_dict, isTy_bool_NoneType, isTy_bool_bool, isTy_bool_int, isTy_bool_str, isTy_bool_tuple, isTy_bool_list, isTy_bool_dict, isTy_str_NoneType, isTy_str_bool, isTy_str_int, isTy_str_str, isTy_str_tuple, isTy_str_list, isTy_str_dict, isTy_tuple_NoneType, isTy_tuple_bool, isTy_tuple_int, isTy_tuple_str, isTy_tuple_tuple, isTy_tuple_list, isTy_tuple_dict, isTy_list_NoneType, isTy_list_bool, isTy_list_int, isTy_list_str, isTy_list_tuple, isTy_list_list, isTy_list_dict, isTy_dict_NoneType, isTy_dict_bool, isTy_dict_int, isTy_dict_str, isTy_dict_tuple, isTy_dict_list, isTy_dict_dict, eo_non, eo_bl, eo_int, eo_str, eo_tup, eo_lst, ev_nn, ev_ii, ev_bb, ev_ss, ev_tt, ev_ll, ea_nn, ea_nc, ea_cn, ea_cc, ea_mapd, ev_non_bl, ev_non_int, ev_non_str, ev_non_tup, ev_non_lst, ev_bl_non, ev_bl_str, ev_bl_tup, ev_bl_lst, ev_int_non, ev_int_str, ev_int_tup, ev_int_lst, ev_str_non, ev_str_bl, ev_str_int, ev_str_tup, ev_str_lst, ev_tup_non, ev_tup_bl, ev_tup_int, ev_tup_str, ev_tup_lst, ev_lst_non, ev_lst_bl, ev_lst_int, ev_lst_str, ev_lst_tup, wipeE_nil, wipeE_cons, cast_0, cast_1, cast_2, cast_3, cast_4, cast_5, cast_6, cast_7, cast_8, cast_9, cast_10, cast_11, cast_12, keysOf_nil, keysOf_cons, mergeS_nil, mergeS_cons, inR_s, sz_lt, sz_le, leq_nn, leq_nc, leq_cn, leq_cc, key_ss, key_ii, key_is, key_si, findK_nil, findK_cons, mapS_nil, mapS_cons, putS_nil, putS_cons, Option.bind_some, Option.map_some, Option.bind_none, Option.map_none, List.set_cons_zero, List.set_cons_succ, List.set_nil, List.getElem?_cons_zero, List.getElem?_cons_succ, List.length_cons, List.length_nil, List.nil_append, List.cons_append, List.map_cons, List.map_nil, if_true, if_false, Bool.false_eq_true, reduceIte, List.all_cons, List.all_nil, Bool.and_true, Bool.true_and, Bool.and_false, Bool.false_and, Bool.not_true, Bool.not_false, Bool.or_false, Bool.or_true, Bool.false_or, Bool.true_or, and_self, and_true, true_and, Int.toNat_natCast, decide_true, decide_false, List.take_zero, List.take_nil, List.take_succ_cons, List.drop_succ_cons, List.drop_zero, List.drop_nil, List.set_nil, List.replicate_succ, List.replicate_zero, List.foldl_cons, List.foldl_nil, Nat.reduceSub, Nat.reduceAdd, Nat.reduceLT, Nat.reduceLeDiff, Nat.reduceEqDiff, Nat.reduceMul, Int.reduceAdd, Int.reduceSub, Int.reduceMul, Int.reduceLT, Int.reduceLE, Int.reduceNeg, Int.reducePow, Int.reduceToNat, or_true, true_or, or_false, false_or, false_and, and_false, Nat.reducePow, not_true_eq_false, not_false_eq_true, Nat.add_zero, Nat.zero_add, Nat.sub_self, Nat.sub_zero, reduceCtorEq, Option.map_map, Int.reduceEq, Int.reduceNe, Int.reduceMod, Int.reduceDiv, List.append_nil, rngL_zero, at0, at1, at2]
  refine (c_pickL h1 [] (by simp)).mono ?_
  rintro p ⟨d, hd, w2, rfl, h2⟩
  have hd2 : ∃ o, d = .str o ∧ o ≠ [] ∧ ∀ c ∈ o, c ∈ az := by
    simp only [List.mem_cons, List.not_mem_nil, or_false] at hd
    rcases hd with rfl | rfl | rfl | rfl <;> exact ⟨_, rfl, by decide, by decide⟩
  obtain ⟨out, rfl, ho, hoz⟩ := hd2
  have hr : inR (1 + (n : Int)) = true := inR_of (by omega)
  simp -implicitDefEqProofs only [run_bind, run_some, run_none, run_map, a_var, a_c, a_op, a_un, a_chain, tst_b, a_test, a_and, a_or, a_not, a_andV, a_orV, a_notV, a_if, a_nil, a_cons, a_tup, a_lst, a_new, a_fn, a_isi, a_call, asI_i, a_part, a_noPart, a_cut, a_app, a_ext, a_index, a_sub, a_ps0, a_ps1, a_disp, a_lc, a_tt, a_skip, andThen_nx, andThen_rt, andThen_bk, andThen_ct, a_seq, a_expr, a_ret, a_retN, a_brk, a_cnt, a_ifS, a_set, a_aug, a_asg, two_eq, a_par, a_put, a_daug, a_for, a_scoped, frzO_nx, frzO_bk, frzO_ct, frzO_rt, frzS_d, frzS_r, frzE_nil, frzE_none, frzE_some, a_gN, a_gsNil, a_gsCons, a_gTp, asStr_s, a_strI, asRng_i, a_rng1, asRng2_i, a_rng2, chkOf_d, a_seqI, a_cYes, items_tup, items_lst, litems_lst, ditems_tup, ditems_lst, toD_d, dataAll_nil, dataAll_cons, dataAll_mapd, asD_d, v_ii, v_addI, v_addS, v_addT, v_addL, v_neg, v_ltI, v_ltS, v_eq, v_ne, v_inS, v_notInS, v_ixS, v_ixR, v_ixT, v_ixL, v_cutS, v_cutT, v_cutL, v_lenS, v_lenR, v_lenT, v_lenL, v_abs, v_int1, v_listT, v_listL, v_tupleT, v_tupleL, v_isN, v_notN, isN_non, isN_r, isN_bl, isN_int, isN_str, isN_tup, isN_lst, ty_non, ty_bl, ty_int, ty_str, ty_tup, ty_lst, keyOf_i, keyOf_s, gAddI_i, gSubI_i, index_s, idxKind_s, isDat_d, isDat_r, svB_d, svB_r, moB_lst, moB_dk, natAbs10, asL_l, asK_k, itL_l, liL_l, tdL_l, tdL_k, dsL_k, dsL_l, tyL_l, tyL_k, lstAt_r, dkAt_r, items_r, litems_r, toD_r, dkS_r, dkS_tup, dkS_lst, dkS_dk, dkS_str, tyS_r, v_ixRef, v_lenRef, v_cutRef, ditems_r, v_listRef, v_tupleRef, v_eqRef, v_neRef, v_addRR, v_addRL, v_addLR, finO_nx, finO_rt, finO_bk, finO_ct, isTy_int_NoneType, isTy_int_bool, isTy_int_int, isTy_int_str, isTy_int_tuple, isTy_int_list, isTy_int_dict, isTy_bool_NoneType, isTy_bool_bool, isTy_bool_int, isTy_bool_str, isTy_bool_tuple, isTy_bool_list, isTy_bool_dict, isTy_str_NoneType, isTy_str_bool, isTy_str_int, isTy_str_str, isTy_str_tuple, isTy_str_list, isTy_str_dict, isTy_tuple_NoneType, isTy_tuple_bool, isTy_tuple_int, isTy_tuple_str, isTy_tuple_tuple, isTy_tuple_list, isTy_tuple_dict, isTy_list_NoneType, isTy_list_bool, isTy_list_int, isTy_list_str, isTy_list_tuple, isTy_list_list, isTy_list_dict, isTy_dict_NoneType, isTy_dict_bool, isTy_dict_int, isTy_dict_str, isTy_dict_tuple, isTy_dict_list, isTy_dict_dict, eo_non, eo_bl, eo_int, eo_str, eo_tup, eo_lst, ev_nn, ev_ii, ev_bb, ev_ss, ev_tt, ev_ll, ea_nn, ea_nc, ea_cn, ea_cc, ea_mapd, ev_non_bl, ev_non_int, ev_non_str, ev_non_tup, ev_non_lst, ev_bl_non, ev_bl_str, ev_bl_tup, ev_bl_lst, ev_int_non, ev_int_str, ev_int_tup, ev_int_lst, ev_str_non, ev_str_bl, ev_str_int, ev_str_tup, ev_str_lst, ev_tup_non, ev_tup_bl, ev_tup_int, ev_tup_str, ev_tup_lst, ev_lst_non, ev_lst_bl, ev_lst_int, ev_lst_str, ev_lst_tup, wipeE_nil, wipeE_cons, cast_0, cast_1, cast_2, cast_3, cast_4, cast_5, cast_6, cast_7, cast_8, cast_9, cast_10, cast_11, cast_12, keysOf_nil, keysOf_cons, mergeS_nil, mergeS_cons, inR_s, sz_lt, sz_le, leq_nn, leq_nc, leq_cn, leq_cc, key_ss, key_ii, key_is, key_si, findK_nil, findK_cons, mapS_nil, mapS_cons, putS_nil, putS_cons, Option.bind_some, Option.map_some, Option.bind_none, Option.map_none, List.set_cons_zero, List.set_cons_succ, List.set_nil, List.getElem?_cons_zero, List.getElem?_cons_succ, List.length_cons, List.length_nil, List.nil_append, List.cons_append, List.map_cons, List.map_nil, if_true, if_false, Bool.false_eq_true, reduceIte, List.all_cons, List.all_nil, Bool.and_true, Bool.true_and, Bool.and_false, Bool.false_and, Bool.not_true, Bool.not_false, Bool.or_false, Bool.or_true, Bool.false_or, Bool.true_or, and_self, and_true, true_and, Int.toNat_natCast, decide_true, decide_false, List.take_zero, List.take_nil, List.take_succ_cons, List.drop_succ_cons, List.drop_zero, List.drop_nil, List.set_nil, List.replicate_succ, List.replicate_zero, List.foldl_cons, List.foldl_nil, Nat.reduceSub, Nat.reduceAdd, Nat.reduceLT, Nat.reduceLeDiff, Nat.reduceEqDiff, Nat.reduceMul, Int.reduceAdd, Int.reduceSub, Int.reduceMul, Int.reduceLT, Int.reduceLE, Int.reduceNeg, Int.reducePow, Int.reduceToNat, or_true, true_or, or_false, false_or, false_and, and_false, Nat.reducePow, not_true_eq_false, not_false_eq_true, Nat.add_zero, Nat.zero_add, Nat.sub_self, Nat.sub_zero, reduceCtorEq, Option.map_map, Int.reduceEq, Int.reduceNe, Int.reduceMod, Int.reduceDiv, List.append_nil, rngL_zero, at0, at1, at2, hr]
  have hk : (1 + (n : Int)).toNat = n + 1 := by omega
  rw [hk]
  refine (lcL_wp (R := fun p => ∃ (b : Bx) (w' : MO), p = (b.map rD, [w']) ∧ wM w' ∧ b.length = n + 1 ∧ ∀ r ∈ b, r.length = ord.length ∧ ∀ x ∈ r, x.2 < n + 1 ∧ x.1 ∈ az) _
    (fun i acc st => ∃ (b : Bx) (w' : MO), acc = b.map rD ∧ st = [w'] ∧ wM w' ∧ b.length = i ∧ i ≤ n + 1 ∧ ∀ r ∈ b, r.length = ord.length ∧ ∀ x ∈ r, x.2 < n + 1 ∧ x.1 ∈ az) ⟨[], w2, rfl, rfl, h2, rfl, by omega, by simp⟩ ?_ ?_).mono ?_
  · rintro i s acc st hs ⟨b, w', rfl, rfl, h3, hb, hi0, hbr⟩
    obtain ⟨hi, rfl⟩ := rngL_get hs
    refine ⟨by simp; have := line_big; omega, ?_⟩
    simp -implicitDefEqProofs only [run_bind, run_some, run_none, run_map, a_var, a_c, a_op, a_un, a_chain, tst_b, a_test, a_and, a_or, a_not, a_andV, a_orV, a_notV, a_if, a_nil, a_cons, a_tup, a_lst, a_new, a_fn, a_isi, a_call, asI_i, a_part, a_noPart, a_cut, a_app, a_ext, a_index, a_sub, a_ps0, a_ps1, a_disp, a_lc, a_tt, a_skip, andThen_nx, andThen_rt, andThen_bk, andThen_ct, a_seq, a_expr, a_ret, a_retN, a_brk, a_cnt, a_ifS, a_set, a_aug, a_asg, two_eq, a_par, a_put, a_daug, a_for, a_scoped, frzO_nx, frzO_bk, frzO_ct, frzO_rt, frzS_d, frzS_r, frzE_nil, frzE_none, frzE_some, a_gN, a_gsNil, a_gsCons, a_gTp, asStr_s, a_strI, asRng_i, a_rng1, asRng2_i, a_rng2, chkOf_d, a_seqI, a_cYes, items_tup, items_lst, litems_lst, ditems_tup, ditems_lst, toD_d, dataAll_nil, dataAll_cons, dataAll_mapd, asD_d, v_ii, v_addI, v_addS, v_addT, v_addL, v_neg, v_ltI, v_ltS, v_eq, v_ne, v_inS, v_notInS, v_ixS, v_ixR, v_ixT, v_ixL, v_cutS, v_cutT, v_cutL, v_lenS, v_lenR, v_lenT, v_lenL, v_abs, v_int1, v_listT, v_listL, v_tupleT, v_tupleL, v_isN, v_notN, isN_non, isN_r, isN_bl, isN_int, isN_str, isN_tup, isN_lst, ty_non, ty_bl, ty_int, ty_str, ty_tup, ty_lst, keyOf_i, keyOf_s, gAddI_i, gSubI_i, index_s, idxKind_s, isDat_d, isDat_r, svB_d, svB_r, moB_lst, moB_dk, natAbs10, asL_l, asK_k, itL_l, liL_l, tdL_l, tdL_k, dsL_k, dsL_l, tyL_l, tyL_k, lstAt_r, dkAt_r, items_r, litems_r, toD_r, dkS_r, dkS_tup, dkS_lst, dkS_dk, dkS_str, tyS_r, v_ixRef, v_lenRef, v_cutRef, ditems_r, v_listRef, v_tupleRef, v_eqRef, v_neRef, v_addRR, v_addRL, v_addLR, finO_nx, finO_rt, finO_bk, finO_ct, isTy_int_NoneType, isTy_int_bool, isTy_int_int, isTy_int_str, isTy_int_tuple, isTy_int_list, isTy_int_dict, isTy_bool_NoneType, isTy_bool_bool, isTy_bool_int, isTy_bool_str, isTy_bool_tuple, isTy_bool_list, isTy_bool_dict, isTy_str_NoneType, isTy_str_bool, isTy_str_int, isTy_str_str, isTy_str_tuple, isTy_str_list, isTy_str_dict, isTy_tuple_NoneType, isTy_tuple_bool, isTy_tuple_int, isTy_tuple_str, isTy_tuple_tuple, isTy_tuple_list, isTy_tuple_dict, isTy_list_NoneType, isTy_list_bool, isTy_list_int, isTy_list_str, isTy_list_tuple, isTy_list_list, isTy_list_dict, isTy_dict_NoneType, isTy_dict_bool, isTy_dict_int, isTy_dict_str, isTy_dict_tuple, isTy_dict_list, isTy_dict_dict, eo_non, eo_bl, eo_int, eo_str, eo_tup, eo_lst, ev_nn, ev_ii, ev_bb, ev_ss, ev_tt, ev_ll, ea_nn, ea_nc, ea_cn, ea_cc, ea_mapd, ev_non_bl, ev_non_int, ev_non_str, ev_non_tup, ev_non_lst, ev_bl_non, ev_bl_str, ev_bl_tup, ev_bl_lst, ev_int_non, ev_int_str, ev_int_tup, ev_int_lst, ev_str_non, ev_str_bl, ev_str_int, ev_str_tup, ev_str_lst, ev_tup_non, ev_tup_bl, ev_tup_int, ev_tup_str, ev_tup_lst, ev_lst_non, ev_lst_bl, ev_lst_int, ev_lst_str, ev_lst_tup, wipeE_nil, wipeE_cons, cast_0, cast_1, cast_2, cast_3, cast_4, cast_5, cast_6, cast_7, cast_8, cast_9, cast_10, cast_11, cast_12, keysOf_nil, keysOf_cons, mergeS_nil, mergeS_cons, inR_s, sz_lt, sz_le, leq_nn, leq_nc, leq_cn, leq_cc, key_ss, key_ii, key_is, key_si, findK_nil, findK_cons, mapS_nil, mapS_cons, putS_nil, putS_cons, Option.bind_some, Option.map_some, Option.bind_none, Option.map_none, List.set_cons_zero, List.set_cons_succ, List.set_nil, List.getElem?_cons_zero, List.getElem?_cons_succ, List.length_cons, List.length_nil, List.nil_append, List.cons_append, List.map_cons, List.map_nil, if_true, if_false, Bool.false_eq_true, reduceIte, List.all_cons, List.all_nil, Bool.and_true, Bool.true_and, Bool.and_false, Bool.false_and, Bool.not_true, Bool.not_false, Bool.or_false, Bool.or_true, Bool.false_or, Bool.true_or, and_self, and_true, true_and, Int.toNat_natCast, decide_true, decide_false, List.take_zero, List.take_nil, List.take_succ_cons, List.drop_succ_cons, List.drop_zero, List.drop_nil, List.set_nil, List.replicate_succ, List.replicate_zero, List.foldl_cons, List.foldl_nil, Nat.reduceSub, Nat.reduceAdd, Nat.reduceLT, Nat.reduceLeDiff, Nat.reduceEqDiff, Nat.reduceMul, Int.reduceAdd, Int.reduceSub, Int.reduceMul, Int.reduceLT, Int.reduceLE, Int.reduceNeg, Int.reducePow, Int.reduceToNat, or_true, true_or, or_false, false_or, false_and, and_false, Nat.reducePow, not_true_eq_false, not_false_eq_true, Nat.add_zero, Nat.zero_add, Nat.sub_self, Nat.sub_zero, reduceCtorEq, Option.map_map, Int.reduceEq, Int.reduceNe, Int.reduceMod, Int.reduceDiv, List.append_nil, rngL_zero, at0, at1, at2]
    refine (lcL_wp (R := fun p => ∃ (r : List (Nat × Nat)) (w' : MO), p = (r.map pD, [w']) ∧ wM w' ∧ r.length = ord.length ∧ ∀ x ∈ r, x.2 < n + 1 ∧ x.1 ∈ az) _
      (fun j acc st => ∃ (r : List (Nat × Nat)) (w' : MO), acc = r.map pD ∧ st = [w'] ∧ wM w' ∧ r.length = j ∧ j ≤ ord.length ∧ ∀ x ∈ r, x.2 < n + 1 ∧ x.1 ∈ az) ⟨[], w', rfl, rfl, h3, rfl, by omega, by simp⟩ ?_ ?_).mono ?_
    · rintro j s acc st hs ⟨r, w'', rfl, rfl, h4, hr, hj0, hrr⟩
      obtain ⟨hj, rfl⟩ := map_get hs
      refine ⟨by simp; have := line_big; omega, ?_⟩
      simp -implicitDefEqProofs only [run_bind, run_some, run_none, run_map, a_var, a_c, a_op, a_un, a_chain, tst_b, a_test, a_and, a_or, a_not, a_andV, a_orV, a_notV, a_if, a_nil, a_cons, a_tup, a_lst, a_new, a_fn, a_isi, a_call, asI_i, a_part, a_noPart, a_cut, a_app, a_ext, a_index, a_sub, a_ps0, a_ps1, a_disp, a_lc, a_tt, a_skip, andThen_nx, andThen_rt, andThen_bk, andThen_ct, a_seq, a_expr, a_ret, a_retN, a_brk, a_cnt, a_ifS, a_set, a_aug, a_asg, two_eq, a_par, a_put, a_daug, a_for, a_scoped, frzO_nx, frzO_bk, frzO_ct, frzO_rt, frzS_d, frzS_r, frzE_nil, frzE_none, frzE_some, a_gN, a_gsNil, a_gsCons, a_gTp, asStr_s, a_strI, asRng_i, a_rng1, asRng2_i, a_rng2, chkOf_d, a_seqI, a_cYes, items_tup, items_lst, litems_lst, ditems_tup, ditems_lst, toD_d, dataAll_nil, dataAll_cons, dataAll_mapd, asD_d, v_ii, v_addI, v_addS, v_addT, v_addL, v_neg, v_ltI, v_ltS, v_eq, v_ne, v_inS, v_notInS, v_ixS, v_ixR, v_ixT, v_ixL, v_cutS, v_cutT, v_cutL, v_lenS, v_lenR, v_lenT, v_lenL, v_abs, v_int1, v_listT, v_listL, v_tupleT, v_tupleL, v_isN, v_notN, isN_non, isN_r, isN_bl, isN_int, isN_str, isN_tup, isN_lst, ty_non, ty_bl, ty_int, ty_str, ty_tup, ty_lst, keyOf_i, keyOf_s, gAddI_i, gSubI_i, index_s, idxKind_s, isDat_d, isDat_r, svB_d, svB_r, moB_lst, moB_dk, natAbs10, asL_l, asK_k, itL_l, liL_l, tdL_l, tdL_k, dsL_k, dsL_l, tyL_l, tyL_k, lstAt_r, dkAt_r, items_r, litems_r, toD_r, dkS_r, dkS_tup, dkS_lst, dkS_dk, dkS_str, tyS_r, v_ixRef, v_lenRef, v_cutRef, ditems_r, v_listRef, v_tupleRef, v_eqRef, v_neRef, v_addRR, v_addRL, v_addLR, finO_nx, finO_rt, finO_bk, finO_ct, isTy_int_NoneType, isTy_int_bool, isTy_int_int, isTy_int_str, isTy_int_tuple, isTy_int_list, isTy_int_dict, isTy_bool_NoneType, isTy_bool_bool, isTy_bool_int, isTy_bool_str, isTy_bool_tuple, isTy_bool_list, isTy_bool_dict, isTy_str_NoneType, isTy_str_bool, isTy_str_int, isTy_str_str, isTy_str_tuple, isTy_str_list, isTy_str_dict, isTy_tuple_NoneType, isTy_tuple_bool, isTy_tuple_int, isTy_tuple_str, isTy_tuple_tuple, isTy_tuple_list, isTy_tuple_dict, isTy_list_NoneType, isTy_list_bool, isTy_list_int, isTy_list_str, isTy_list_tuple, isTy_list_list, isTy_list_dict, isTy_dict_NoneType, isTy_dict_bool, isTy_dict_int, isTy_dict_str, isTy_dict_tuple, isTy_dict_list, isTy_dict_dict, eo_non, eo_bl, eo_int, eo_str, eo_tup, eo_lst, ev_nn, ev_ii, ev_bb, ev_ss, ev_tt, ev_ll, ea_nn, ea_nc, ea_cn, ea_cc, ea_mapd, ev_non_bl, ev_non_int, ev_non_str, ev_non_tup, ev_non_lst, ev_bl_non, ev_bl_str, ev_bl_tup, ev_bl_lst, ev_int_non, ev_int_str, ev_int_tup, ev_int_lst, ev_str_non, ev_str_bl, ev_str_int, ev_str_tup, ev_str_lst, ev_tup_non, ev_tup_bl, ev_tup_int, ev_tup_str, ev_tup_lst, ev_lst_non, ev_lst_bl, ev_lst_int, ev_lst_str, ev_lst_tup, wipeE_nil, wipeE_cons, cast_0, cast_1, cast_2, cast_3, cast_4, cast_5, cast_6, cast_7, cast_8, cast_9, cast_10, cast_11, cast_12, keysOf_nil, keysOf_cons, mergeS_nil, mergeS_cons, inR_s, sz_lt, sz_le, leq_nn, leq_nc, leq_cn, leq_cc, key_ss, key_ii, key_is, key_si, findK_nil, findK_cons, mapS_nil, mapS_cons, putS_nil, putS_cons, Option.bind_some, Option.map_some, Option.bind_none, Option.map_none, List.set_cons_zero, List.set_cons_succ, List.set_nil, List.getElem?_cons_zero, List.getElem?_cons_succ, List.length_cons, List.length_nil, List.nil_append, List.cons_append, List.map_cons, List.map_nil, if_true, if_false, Bool.false_eq_true, reduceIte, List.all_cons, List.all_nil, Bool.and_true, Bool.true_and, Bool.and_false, Bool.false_and, Bool.not_true, Bool.not_false, Bool.or_false, Bool.or_true, Bool.false_or, Bool.true_or, and_self, and_true, true_and, Int.toNat_natCast, decide_true, decide_false, List.take_zero, List.take_nil, List.take_succ_cons, List.drop_succ_cons, List.drop_zero, List.drop_nil, List.set_nil, List.replicate_succ, List.replicate_zero, List.foldl_cons, List.foldl_nil, Nat.reduceSub, Nat.reduceAdd, Nat.reduceLT, Nat.reduceLeDiff, Nat.reduceEqDiff, Nat.reduceMul, Int.reduceAdd, Int.reduceSub, Int.reduceMul, Int.reduceLT, Int.reduceLE, Int.reduceNeg, Int.reducePow, Int.reduceToNat, or_true, true_or, or_false, false_or, false_and, and_false, Nat.reducePow, not_true_eq_false, not_false_eq_true, Nat.add_zero, Nat.zero_add, Nat.sub_self, Nat.sub_zero, reduceCtorEq, Option.map_map, Int.reduceEq, Int.reduceNe, Int.reduceMod, Int.reduceDiv, List.append_nil, rngL_zero, at0, at1, at2]
      refine (c_pickS h4 [] ho).mono ?_
      rintro p ⟨c, hc, w5, rfl, h5⟩
      simp -implicitDefEqProofs only [run_bind, run_some, run_none, run_map, a_var, a_c, a_op, a_un, a_chain, tst_b, a_test, a_and, a_or, a_not, a_andV, a_orV, a_notV, a_if, a_nil, a_cons, a_tup, a_lst, a_new, a_fn, a_isi, a_call, asI_i, a_part, a_noPart, a_cut, a_app, a_ext, a_index, a_sub, a_ps0, a_ps1, a_disp, a_lc, a_tt, a_skip, andThen_nx, andThen_rt, andThen_bk, andThen_ct, a_seq, a_expr, a_ret, a_retN, a_brk, a_cnt, a_ifS, a_set, a_aug, a_asg, two_eq, a_par, a_put, a_daug, a_for, a_scoped, frzO_nx, frzO_bk, frzO_ct, frzO_rt, frzS_d, frzS_r, frzE_nil, frzE_none, frzE_some, a_gN, a_gsNil, a_gsCons, a_gTp, asStr_s, a_strI, asRng_i, a_rng1, asRng2_i, a_rng2, chkOf_d, a_seqI, a_cYes, items_tup, items_lst, litems_lst, ditems_tup, ditems_lst, toD_d, dataAll_nil, dataAll_cons, dataAll_mapd, asD_d, v_ii, v_addI, v_addS, v_addT, v_addL, v_neg, v_ltI, v_ltS, v_eq, v_ne, v_inS, v_notInS, v_ixS, v_ixR, v_ixT, v_ixL, v_cutS, v_cutT, v_cutL, v_lenS, v_lenR, v_lenT, v_lenL, v_abs, v_int1, v_listT, v_listL, v_tupleT, v_tupleL, v_isN, v_notN, isN_non, isN_r, isN_bl, isN_int, isN_str, isN_tup, isN_lst, ty_non, ty_bl, ty_int, ty_str, ty_tup, ty_lst, keyOf_i, keyOf_s, gAddI_i, gSubI_i, index_s, idxKind_s, isDat_d, isDat_r, svB_d, svB_r, moB_lst, moB_dk, natAbs10, asL_l, asK_k, itL_l, liL_l, tdL_l, tdL_k, dsL_k, dsL_l, tyL_l, tyL_k, lstAt_r, dkAt_r, items_r, litems_r, toD_r, dkS_r, dkS_tup, dkS_lst, dkS_dk, dkS_str, tyS_r, v_ixRef, v_lenRef, v_cutRef, ditems_r, v_listRef, v_tupleRef, v_eqRef, v_neRef, v_addRR, v_addRL, v_addLR, finO_nx, finO_rt, finO_bk, finO_ct, isTy_int_NoneType, isTy_int_bool, isTy_int_int, isTy_int_str, isTy_int_tuple, isTy_int_list, isTy_int_dict, isTy_bool_NoneType, isTy_bool_bool, isTy_bool_int, isTy_bool_str, isTy_bool_tuple, isTy_bool_list, isTy_bool_dict, isTy_str_NoneType, isTy_str_bool, isTy_str_int, isTy_str_str, isTy_str_tuple, isTy_str_list, isTy_str_dict, isTy_tuple_NoneType, isTy_tuple_bool, isTy_tuple_int, isTy_tuple_str, isTy_tuple_tuple, isTy_tuple_list, isTy_tuple_dict, isTy_list_NoneType, isTy_list_bool, isTy_list_int, isTy_list_str, isTy_list_tuple, isTy_list_list, isTy_list_dict, isTy_dict_NoneType, isTy_dict_bool, isTy_dict_int, isTy_dict_str, isTy_dict_tuple, isTy_dict_list, isTy_dict_dict, eo_non, eo_bl, eo_int, eo_str, eo_tup, eo_lst, ev_nn, ev_ii, ev_bb, ev_ss, ev_tt, ev_ll, ea_nn, ea_nc, ea_cn, ea_cc, ea_mapd, ev_non_bl, ev_non_int, ev_non_str, ev_non_tup, ev_non_lst, ev_bl_non, ev_bl_str, ev_bl_tup, ev_bl_lst, ev_int_non, ev_int_str, ev_int_tup, ev_int_lst, ev_str_non, ev_str_bl, ev_str_int, ev_str_tup, ev_str_lst, ev_tup_non, ev_tup_bl, ev_tup_int, ev_tup_str, ev_tup_lst, ev_lst_non, ev_lst_bl, ev_lst_int, ev_lst_str, ev_lst_tup, wipeE_nil, wipeE_cons, cast_0, cast_1, cast_2, cast_3, cast_4, cast_5, cast_6, cast_7, cast_8, cast_9, cast_10, cast_11, cast_12, keysOf_nil, keysOf_cons, mergeS_nil, mergeS_cons, inR_s, sz_lt, sz_le, leq_nn, leq_nc, leq_cn, leq_cc, key_ss, key_ii, key_is, key_si, findK_nil, findK_cons, mapS_nil, mapS_cons, putS_nil, putS_cons, Option.bind_some, Option.map_some, Option.bind_none, Option.map_none, List.set_cons_zero, List.set_cons_succ, List.set_nil, List.getElem?_cons_zero, List.getElem?_cons_succ, List.length_cons, List.length_nil, List.nil_append, List.cons_append, List.map_cons, List.map_nil, if_true, if_false, Bool.false_eq_true, reduceIte, List.all_cons, List.all_nil, Bool.and_true, Bool.true_and, Bool.and_false, Bool.false_and, Bool.not_true, Bool.not_false, Bool.or_false, Bool.or_true, Bool.false_or, Bool.true_or, and_self, and_true, true_and, Int.toNat_natCast, decide_true, decide_false, List.take_zero, List.take_nil, List.take_succ_cons, List.drop_succ_cons, List.drop_zero, List.drop_nil, List.set_nil, List.replicate_succ, List.replicate_zero, List.foldl_cons, List.foldl_nil, Nat.reduceSub, Nat.reduceAdd, Nat.reduceLT, Nat.reduceLeDiff, Nat.reduceEqDiff, Nat.reduceMul, Int.reduceAdd, Int.reduceSub, Int.reduceMul, Int.reduceLT, Int.reduceLE, Int.reduceNeg, Int.reducePow, Int.reduceToNat, or_true, true_or, or_false, false_or, false_and, and_false, Nat.reducePow, not_true_eq_false, not_false_eq_true, Nat.add_zero, Nat.zero_add, Nat.sub_self, Nat.sub_zero, reduceCtorEq, Option.map_map, Int.reduceEq, Int.reduceNe, Int.reduceMod, Int.reduceDiv, List.append_nil, rngL_zero, at0, at1, at2]
      refine (c_next h5 [] (1 + (n : Int)) (by omega)).mono ?_
      rintro p ⟨m, w6, rfl, m0, m1, h6⟩
      obtain ⟨m, rfl⟩ := Int.eq_ofNat_of_zero_le m0
      simp -implicitDefEqProofs only [run_bind, run_some, run_none, run_map, a_var, a_c, a_op, a_un, a_chain, tst_b, a_test, a_and, a_or, a_not, a_andV, a_orV, a_notV, a_if, a_nil, a_cons, a_tup, a_lst, a_new, a_fn, a_isi, a_call, asI_i, a_part, a_noPart, a_cut, a_app, a_ext, a_index, a_sub, a_ps0, a_ps1, a_disp, a_lc, a_tt, a_skip, andThen_nx, andThen_rt, andThen_bk, andThen_ct, a_seq, a_expr, a_ret, a_retN, a_brk, a_cnt, a_ifS, a_set, a_aug, a_asg, two_eq, a_par, a_put, a_daug, a_for, a_scoped, frzO_nx, frzO_bk, frzO_ct, frzO_rt, frzS_d, frzS_r, frzE_nil, frzE_none, frzE_some, a_gN, a_gsNil, a_gsCons, a_gTp, asStr_s, a_strI, asRng_i, a_rng1, asRng2_i, a_rng2, chkOf_d, a_seqI, a_cYes, items_tup, items_lst, litems_lst, ditems_tup, ditems_lst, toD_d, dataAll_nil, dataAll_cons, dataAll_mapd, asD_d, v_ii, v_addI, v_addS, v_addT, v_addL, v_neg, v_ltI, v_ltS, v_eq, v_ne, v_inS, v_notInS, v_ixS, v_ixR, v_ixT, v_ixL, v_cutS, v_cutT, v_cutL, v_lenS, v_lenR, v_lenT, v_lenL, v_abs, v_int1, v_listT, v_listL, v_tupleT, v_tupleL, v_isN, v_notN, isN_non, isN_r, isN_bl, isN_int, isN_str, isN_tup, isN_lst, ty_non, ty_bl, ty_int, ty_str, ty_tup, ty_lst, keyOf_i, keyOf_s, gAddI_i, gSubI_i, index_s, idxKind_s, isDat_d, isDat_r, svB_d, svB_r, moB_lst, moB_dk, natAbs10, asL_l, asK_k, itL_l, liL_l, tdL_l, tdL_k, dsL_k, dsL_l, tyL_l, tyL_k, lstAt_r, dkAt_r, items_r, litems_r, toD_r, dkS_r, dkS_tup, dkS_lst, dkS_dk, dkS_str, tyS_r, v_ixRef, v_lenRef, v_cutRef, ditems_r, v_listRef, v_tupleRef, v_eqRef, v_neRef, v_addRR, v_addRL, v_addLR, finO_nx, finO_rt, finO_bk, finO_ct, isTy_int_NoneType, isTy_int_bool, isTy_int_int, isTy_int_str, isTy_int_tuple, isTy_int_list, isTy_int_dict, isTy_bool_NoneType, isTy_bool_bool, isTy_bool_int, isTy_bool_str, isTy_bool_tuple, isTy_bool_list, isTy_bool_dict, isTy_str_NoneType, isTy_str_bool, isTy_str_int, isTy_str_str, isTy_str_tuple, isTy_str_list, isTy_str_dict, isTy_tuple_NoneType, isTy_tuple_bool, isTy_tuple_int, isTy_tuple_str, isTy_tuple_tuple, isTy_tuple_list, isTy_tuple_dict, isTy_list_NoneType, isTy_list_bool, isTy_list_int, isTy_list_str, isTy_list_tuple, isTy_list_list, isTy_list_dict, isTy_dict_NoneType, isTy_dict_bool, isTy_dict_int, isTy_dict_str, isTy_dict_tuple, isTy_dict_list, isTy_dict_dict, eo_non, eo_bl, eo_int, eo_str, eo_tup, eo_lst, ev_nn, ev_ii, ev_bb, ev_ss, ev_tt, ev_ll, ea_nn, ea_nc, ea_cn, ea_cc, ea_mapd, ev_non_bl, ev_non_int, ev_non_str, ev_non_tup, ev_non_lst, ev_bl_non, ev_bl_str, ev_bl_tup, ev_bl_lst, ev_int_non, ev_int_str, ev_int_tup, ev_int_lst, ev_str_non, ev_str_bl, ev_str_int, ev_str_tup, ev_str_lst, ev_tup_non, ev_tup_bl, ev_tup_int, ev_tup_str, ev_tup_lst, ev_lst_non, ev_lst_bl, ev_lst_int, ev_lst_str, ev_lst_tup, wipeE_nil, wipeE_cons, cast_0, cast_1, cast_2, cast_3, cast_4, cast_5, cast_6, cast_7, cast_8, cast_9, cast_10, cast_11, cast_12, keysOf_nil, keysOf_cons, mergeS_nil, mergeS_cons, inR_s, sz_lt, sz_le, leq_nn, leq_nc, leq_cn, leq_cc, key_ss, key_ii, key_is, key_si, findK_nil, findK_cons, mapS_nil, mapS_cons, putS_nil, putS_cons, Option.bind_some, Option.map_some, Option.bind_none, Option.map_none, List.set_cons_zero, List.set_cons_succ, List.set_nil, List.getElem?_cons_zero, List.getElem?_cons_succ, List.length_cons, List.length_nil, List.nil_append, List.cons_append, List.map_cons, List.map_nil, if_true, if_false, Bool.false_eq_true, reduceIte, List.all_cons, List.all_nil, Bool.and_true, Bool.true_and, Bool.and_false, Bool.false_and, Bool.not_true, Bool.not_false, Bool.or_false, Bool.or_true, Bool.false_or, Bool.true_or, and_self, and_true, true_and, Int.toNat_natCast, decide_true, decide_false, List.take_zero, List.take_nil, List.take_succ_cons, List.drop_succ_cons, List.drop_zero, List.drop_nil, List.set_nil, List.replicate_succ, List.replicate_zero, List.foldl_cons, List.foldl_nil, Nat.reduceSub, Nat.reduceAdd, Nat.reduceLT, Nat.reduceLeDiff, Nat.reduceEqDiff, Nat.reduceMul, Int.reduceAdd, Int.reduceSub, Int.reduceMul, Int.reduceLT, Int.reduceLE, Int.reduceNeg, Int.reducePow, Int.reduceToNat, or_true, true_or, or_false, false_or, false_and, and_false, Nat.reducePow, not_true_eq_false, not_false_eq_true, Nat.add_zero, Nat.zero_add, Nat.sub_self, Nat.sub_zero, reduceCtorEq, Option.map_map, Int.reduceEq, Int.reduceNe, Int.reduceMod, Int.reduceDiv, List.append_nil, rngL_zero, at0, at1, at2]
      refine ⟨_, rfl, r ++ [(c, m)], w6, by simp, rfl, h6, by simp [hr], by omega, fun x hx => ?_⟩
      rcases List.mem_append.mp hx with hx | hx
      · exact hrr x hx
      · simp at hx
        subst hx
        exact ⟨by omega, hoz _ hc⟩
    · rintro acc st ⟨r, w'', rfl, rfl, h4, hr, hj0, hrr⟩
      exact ⟨r, w'', rfl, h4, by simpa using hr, hrr⟩
    · rintro p ⟨r, w'', rfl, h4, hr, hrr⟩
      simp -implicitDefEqProofs only [run_bind, run_some, run_none, run_map, a_var, a_c, a_op, a_un, a_chain, tst_b, a_test, a_and, a_or, a_not, a_andV, a_orV, a_notV, a_if, a_nil, a_cons, a_tup, a_lst, a_new, a_fn, a_isi, a_call, asI_i, a_part, a_noPart, a_cut, a_app, a_ext, a_index, a_sub, a_ps0, a_ps1, a_disp, a_lc, a_tt, a_skip, andThen_nx, andThen_rt, andThen_bk, andThen_ct, a_seq, a_expr, a_ret, a_retN, a_brk, a_cnt, a_ifS, a_set, a_aug, a_asg, two_eq, a_par, a_put, a_daug, a_for, a_scoped, frzO_nx, frzO_bk, frzO_ct, frzO_rt, frzS_d, frzS_r, frzE_nil, frzE_none, frzE_some, a_gN, a_gsNil, a_gsCons, a_gTp, asStr_s, a_strI, asRng_i, a_rng1, asRng2_i, a_rng2, chkOf_d, a_seqI, a_cYes, items_tup, items_lst, litems_lst, ditems_tup, ditems_lst, toD_d, dataAll_nil, dataAll_cons, dataAll_mapd, asD_d, v_ii, v_addI, v_addS, v_addT, v_addL, v_neg, v_ltI, v_ltS, v_eq, v_ne, v_inS, v_notInS, v_ixS, v_ixR, v_ixT, v_ixL, v_cutS, v_cutT, v_cutL, v_lenS, v_lenR, v_lenT, v_lenL, v_abs, v_int1, v_listT, v_listL, v_tupleT, v_tupleL, v_isN, v_notN, isN_non, isN_r, isN_bl, isN_int, isN_str, isN_tup, isN_lst, ty_non, ty_bl, ty_int, ty_str, ty_tup, ty_lst, keyOf_i, keyOf_s, gAddI_i, gSubI_i, index_s, idxKind_s, isDat_d, isDat_r, svB_d, svB_r, moB_lst, moB_dk, natAbs10, asL_l, asK_k, itL_l, liL_l, tdL_l, tdL_k, dsL_k, dsL_l, tyL_l, tyL_k, lstAt_r, dkAt_r, items_r, litems_r, toD_r, dkS_r, dkS_tup, dkS_lst, dkS_dk, dkS_str, tyS_r, v_ixRef, v_lenRef, v_cutRef, ditems_r, v_listRef, v_tupleRef, v_eqRef, v_neRef, v_addRR, v_addRL, v_addLR, finO_nx, finO_rt, finO_bk, finO_ct, isTy_int_NoneType, isTy_int_bool, isTy_int_int, isTy_int_str, isTy_int_tuple, isTy_int_list, isTy_int_dict, isTy_bool_NoneType, isTy_bool_bool, isTy_bool_int, isTy_bool_str, isTy_bool_tuple, isTy_bool_list, isTy_bool_dict, isTy_str_NoneType, isTy_str_bool, isTy_str_int, isTy_str_str, isTy_str_tuple, isTy_str_list, isTy_str_dict, isTy_tuple_NoneType, isTy_tuple_bool, isTy_tuple_int, isTy_tuple_str, isTy_tuple_tuple, isTy_tuple_list, isTy_tuple_dict, isTy_list_NoneType, isTy_list_bool, isTy_list_int, isTy_list_str, isTy_list_tuple, isTy_list_list, isTy_list_dict, isTy_dict_NoneType, isTy_dict_bool, isTy_dict_int, isTy_dict_str, isTy_dict_tuple, isTy_dict_list, isTy_dict_dict, eo_non, eo_bl, eo_int, eo_str, eo_tup, eo_lst, ev_nn, ev_ii, ev_bb, ev_ss, ev_tt, ev_ll, ea_nn, ea_nc, ea_cn, ea_cc, ea_mapd, ev_non_bl, ev_non_int, ev_non_str, ev_non_tup, ev_non_lst, ev_bl_non, ev_bl_str, ev_bl_tup, ev_bl_lst, ev_int_non, ev_int_str, ev_int_tup, ev_int_lst, ev_str_non, ev_str_bl, ev_str_int, ev_str_tup, ev_str_lst, ev_tup_non, ev_tup_bl, ev_tup_int, ev_tup_str, ev_tup_lst, ev_lst_non, ev_lst_bl, ev_lst_int, ev_lst_str, ev_lst_tup, wipeE_nil, wipeE_cons, cast_0, cast_1, cast_2, cast_3, cast_4, cast_5, cast_6, cast_7, cast_8, cast_9, cast_10, cast_11, cast_12, keysOf_nil, keysOf_cons, mergeS_nil, mergeS_cons, inR_s, sz_lt, sz_le, leq_nn, leq_nc, leq_cn, leq_cc, key_ss, key_ii, key_is, key_si, findK_nil, findK_cons, mapS_nil, mapS_cons, putS_nil, putS_cons, Option.bind_some, Option.map_some, Option.bind_none, Option.map_none, List.set_cons_zero, List.set_cons_succ, List.set_nil, List.getElem?_cons_zero, List.getElem?_cons_succ, List.length_cons, List.length_nil, List.nil_append, List.cons_append, List.map_cons, List.map_nil, if_true, if_false, Bool.false_eq_true, reduceIte, List.all_cons, List.all_nil, Bool.and_true, Bool.true_and, Bool.and_false, Bool.false_and, Bool.not_true, Bool.not_false, Bool.or_false, Bool.or_true, Bool.false_or, Bool.true_or, and_self, and_true, true_and, Int.toNat_natCast, decide_true, decide_false, List.take_zero, List.take_nil, List.take_succ_cons, List.drop_succ_cons, List.drop_zero, List.drop_nil, List.set_nil, List.replicate_succ, List.replicate_zero, List.foldl_cons, List.foldl_nil, Nat.reduceSub, Nat.reduceAdd, Nat.reduceLT, Nat.reduceLeDiff, Nat.reduceEqDiff, Nat.reduceMul, Int.reduceAdd, Int.reduceSub, Int.reduceMul, Int.reduceLT, Int.reduceLE, Int.reduceNeg, Int.reducePow, Int.reduceToNat, or_true, true_or, or_false, false_or, false_and, and_false, Nat.reducePow, not_true_eq_false, not_false_eq_true, Nat.add_zero, Nat.zero_add, Nat.sub_self, Nat.sub_zero, reduceCtorEq, Option.map_map, Int.reduceEq, Int.reduceNe, Int.reduceMod, Int.reduceDiv, List.append_nil, rngL_zero, at0, at1, at2]
      refine ⟨_, rfl, b ++ [r], w'', by simp, rfl, h4, by simp [hb], by omega, fun x hx => ?_⟩
      rcases List.mem_append.mp hx with hx | hx
      · exact hbr x hx
      · simp at hx
        subst hx
        exact ⟨hr, hrr⟩
  · rintro acc st ⟨b, w', rfl, rfl, h3, hb, hi0, hbr⟩
    rw [rngL_len] at hb
    exact ⟨b, w', rfl, h3, hb, hbr⟩
  · rintro p ⟨b, w', rfl, h3, hb, hbr⟩
    have hw := wM_mo h3
    simp -implicitDefEqProofs only [run_bind, run_some, run_none, run_map, a_var, a_c, a_op, a_un, a_chain, tst_b, a_test, a_and, a_or, a_not, a_andV, a_orV, a_notV, a_if, a_nil, a_cons, a_tup, a_lst, a_new, a_fn, a_isi, a_call, asI_i, a_part, a_noPart, a_cut, a_app, a_ext, a_index, a_sub, a_ps0, a_ps1, a_disp, a_lc, a_tt, a_skip, andThen_nx, andThen_rt, andThen_bk, andThen_ct, a_seq, a_expr, a_ret, a_retN, a_brk, a_cnt, a_ifS, a_set, a_aug, a_asg, two_eq, a_par, a_put, a_daug, a_for, a_scoped, frzO_nx, frzO_bk, frzO_ct, frzO_rt, frzS_d, frzS_r, frzE_nil, frzE_none, frzE_some, a_gN, a_gsNil, a_gsCons, a_gTp, asStr_s, a_strI, asRng_i, a_rng1, asRng2_i, a_rng2, chkOf_d, a_seqI, a_cYes, items_tup, items_lst, litems_lst, ditems_tup, ditems_lst, toD_d, dataAll_nil, dataAll_cons, dataAll_mapd, asD_d, v_ii, v_addI, v_addS, v_addT, v_addL, v_neg, v_ltI, v_ltS, v_eq, v_ne, v_inS, v_notInS, v_ixS, v_ixR, v_ixT, v_ixL, v_cutS, v_cutT, v_cutL, v_lenS, v_lenR, v_lenT, v_lenL, v_abs, v_int1, v_listT, v_listL, v_tupleT, v_tupleL, v_isN, v_notN, isN_non, isN_r, isN_bl, isN_int, isN_str, isN_tup, isN_lst, ty_non, ty_bl, ty_int, ty_str, ty_tup, ty_lst, keyOf_i, keyOf_s, gAddI_i, gSubI_i, index_s, idxKind_s, isDat_d, isDat_r, svB_d, svB_r, moB_lst, moB_dk, natAbs10, asL_l, asK_k, itL_l, liL_l, tdL_l, tdL_k, dsL_k, dsL_l, tyL_l, tyL_k, lstAt_r, dkAt_r, items_r, litems_r, toD_r, dkS_r, dkS_tup, dkS_lst, dkS_dk, dkS_str, tyS_r, v_ixRef, v_lenRef, v_cutRef, ditems_r, v_listRef, v_tupleRef, v_eqRef, v_neRef, v_addRR, v_addRL, v_addLR, finO_nx, finO_rt, finO_bk, finO_ct, isTy_int_NoneType, isTy_int_bool, isTy_int_int, isTy_int_str, isTy_int_tuple, isTy_int_list, isTy_int_dict, isTy_bool_NoneType, isTy_bool_bool, isTy_bool_int, isTy_bool_str, isTy_bool_tuple, isTy_bool_list, isTy_bool_dict, isTy_str_NoneType, isTy_str_bool, isTy_str_int, isTy_str_str, isTy_str_tuple, isTy_str_list, isTy_str_dict, isTy_tuple_NoneType, isTy_tuple_bool, isTy_tuple_int, isTy_tuple_str, isTy_tuple_tuple, isTy_tuple_list, isTy_tuple_dict, isTy_list_NoneType, isTy_list_bool, isTy_list_int, isTy_list_str, isTy_list_tuple, isTy_list_list, isTy_list_dict, isTy_dict_NoneType, isTy_dict_bool, isTy_dict_int, isTy_dict_str, isTy_dict_tuple, isTy_dict_list, isTy_dict_dict, eo_non, eo_bl, eo_int, eo_str, eo_tup, eo_lst, ev_nn, ev_ii, ev_bb, ev_ss, ev_tt, ev_ll, ea_nn, ea_nc, ea_cn, ea_cc, ea_mapd, ev_non_bl, ev_non_int, ev_non_str, ev_non_tup, ev_non_lst, ev_bl_non, ev_bl_str, ev_bl_tup, ev_bl_lst, ev_int_non, ev_int_str, ev_int_tup, ev_int_lst, ev_str_non, ev_str_bl, ev_str_int, ev_str_tup, ev_str_lst, ev_tup_non, ev_tup_bl, ev_tup_int, ev_tup_str, ev_tup_lst, ev_lst_non, ev_lst_bl, ev_lst_int, ev_lst_str, ev_lst_tup, wipeE_nil, wipeE_cons, cast_0, cast_1, cast_2, cast_3, cast_4, cast_5, cast_6, cast_7, cast_8, cast_9, cast_10, cast_11, cast_12, keysOf_nil, keysOf_cons, mergeS_nil, mergeS_cons, inR_s, sz_lt, sz_le, leq_nn, leq_nc, leq_cn, leq_cc, key_ss, key_ii, key_is, key_si, findK_nil, findK_cons, mapS_nil, mapS_cons, putS_nil, putS_cons, Option.bind_some, Option.map_some, Option.bind_none, Option.map_none, List.set_cons_zero, List.set_cons_succ, List.set_nil, List.getElem?_cons_zero, List.getElem?_cons_succ, List.length_cons, List.length_nil, List.nil_append, List.cons_append, List.map_cons, List.map_nil, if_true, if_false, Bool.false_eq_true, reduceIte, List.all_cons, List.all_nil, Bool.and_true, Bool.true_and, Bool.and_false, Bool.false_and, Bool.not_true, Bool.not_false, Bool.or_false, Bool.or_true, Bool.false_or, Bool.true_or, and_self, and_true, true_and, Int.toNat_natCast, decide_true, decide_false, List.take_zero, List.take_nil, List.take_succ_cons, List.drop_succ_cons, List.drop_zero, List.drop_nil, List.set_nil, List.replicate_succ, List.replicate_zero, List.foldl_cons, List.foldl_nil, Nat.reduceSub, Nat.reduceAdd, Nat.reduceLT, Nat.reduceLeDiff, Nat.reduceEqDiff, Nat.reduceMul, Int.reduceAdd, Int.reduceSub, Int.reduceMul, Int.reduceLT, Int.reduceLE, Int.reduceNeg, Int.reducePow, Int.reduceToNat, or_true, true_or, or_false, false_or, false_and, and_false, Nat.reducePow, not_true_eq_false, not_false_eq_true, Nat.add_zero, Nat.zero_add, Nat.sub_self, Nat.sub_zero, reduceCtorEq, Option.map_map, Int.reduceEq, Int.reduceNe, Int.reduceMod, Int.reduceDiv, List.append_nil, rngL_zero, at0, at1, at2, hw]
    refine ⟨b, w', rfl, h3, fun e => by rw [e] at hb; simp at hb, by omega, fun r hr => (hbr r hr).1, fun r hr p hp => ?_⟩
    have := (hbr r hr).2 p hp
    exact ⟨by omega, this.2⟩
theorem ok_pD (n : Nat) (p : Nat × Nat) : eqOk (n + 1) (pD p) = true := by simp
theorem ok_rD (n : Nat) (r : List (Nat × Nat)) : eqOk (n + 2) (rD r) = true := by
  rw [eo_tup, List.all_map, List.all_eq_true]
  exact fun p _ => ok_pD n p
theorem ok_rows (n : Nat) (b : Bx) : (b.map rD).all (eqOk (n + 2)) = true := by
  rw [List.all_map, List.all_eq_true]
  exact fun p _ => ok_rD n p
theorem ok_ps (n : Nat) (r : List (Nat × Nat)) : (r.map pD).all (eqOk (n + 1)) = true := by
  rw [List.all_map, List.all_eq_true]
  exact fun p _ => ok_pD n p
theorem p_bent {w : MO} (h : wM w) {b : Bx} {n : Nat} (hb : okB b n) (h0 : 0 < n) (hn : n ≤ 100) : DL.Run (F__law_bent [.r 0, .d (bD b)] [w]) fun p => ∃ (v : D) (w' : MO), p = (.d v, [w']) ∧ wM w' ∧ eqOk 30 v = true := by
  have hle := hb.le
  have hpos : 0 < b.length := List.length_pos_iff.mpr hb.ne
  unfold F__law_bent g__law_bent
  rw [a_runF]
  simp -implicitDefEqProofs only [run_bind, run_some, run_none, run_map, a_var, a_c, a_op, a_un, a_chain, tst_b, a_test, a_and, a_or, a_not, a_andV, a_orV, a_notV, a_if, a_nil, a_cons, a_tup, a_lst, a_new, a_fn, a_isi, a_call, asI_i, a_part, a_noPart, a_cut, a_app, a_ext, a_index, a_sub, a_ps0, a_ps1, a_disp, a_lc, a_tt, a_skip, andThen_nx, andThen_rt, andThen_bk, andThen_ct, a_seq, a_expr, a_ret, a_retN, a_brk, a_cnt, a_ifS, a_set, a_aug, a_asg, two_eq, a_par, a_put, a_daug, a_for, a_scoped, frzO_nx, frzO_bk, frzO_ct, frzO_rt, frzS_d, frzS_r, frzE_nil, frzE_none, frzE_some, a_gN, a_gsNil, a_gsCons, a_gTp, asStr_s, a_strI, asRng_i, a_rng1, asRng2_i, a_rng2, chkOf_d, a_seqI, a_cYes, items_tup, items_lst, litems_lst, ditems_tup, ditems_lst, toD_d, dataAll_nil, dataAll_cons, dataAll_mapd, asD_d, v_ii, v_addI, v_addS, v_addT, v_addL, v_neg, v_ltI, v_ltS, v_eq, v_ne, v_inS, v_notInS, v_ixS, v_ixR, v_ixT, v_ixL, v_cutS, v_cutT, v_cutL, v_lenS, v_lenR, v_lenT, v_lenL, v_abs, v_int1, v_listT, v_listL, v_tupleT, v_tupleL, v_isN, v_notN, isN_non, isN_r, isN_bl, isN_int, isN_str, isN_tup, isN_lst, ty_non, ty_bl, ty_int, ty_str, ty_tup, ty_lst, keyOf_i, keyOf_s, gAddI_i, gSubI_i, index_s, idxKind_s, isDat_d, isDat_r, svB_d, svB_r, moB_lst, moB_dk, natAbs10, asL_l, asK_k, itL_l, liL_l, tdL_l, tdL_k, dsL_k, dsL_l, tyL_l, tyL_k, lstAt_r, dkAt_r, items_r, litems_r, toD_r, dkS_r, dkS_tup, dkS_lst, dkS_dk, dkS_str, tyS_r, v_ixRef, v_lenRef, v_cutRef, ditems_r, v_listRef, v_tupleRef, v_eqRef, v_neRef, v_addRR, v_addRL, v_addLR, finO_nx, finO_rt, finO_bk, finO_ct, isTy_int_NoneType, isTy_int_bool, isTy_int_int, isTy_int_str, isTy_int_tuple, isTy_int_list, isTy_int_dict, isTy_bool_NoneType, isTy_bool_bool, isTy_bool_int, isTy_bool_str, isTy_bool_tuple, isTy_bool_list, isTy_bool_dict, isTy_str_NoneType, isTy_str_bool, isTy_str_int, isTy_str_str, isTy_str_tuple, isTy_str_list, isTy_str_dict, isTy_tuple_NoneType, isTy_tuple_bool, isTy_tuple_int, isTy_tuple_str, isTy_tuple_tuple, isTy_tuple_list, isTy_tuple_dict, isTy_list_NoneType, isTy_list_bool, isTy_list_int, isTy_list_str, isTy_list_tuple, isTy_list_list, isTy_list_dict, isTy_dict_NoneType, isTy_dict_bool, isTy_dict_int, isTy_dict_str, isTy_dict_tuple, isTy_dict_list, isTy_dict_dict, eo_non, eo_bl, eo_int, eo_str, eo_tup, eo_lst, ev_nn, ev_ii, ev_bb, ev_ss, ev_tt, ev_ll, ea_nn, ea_nc, ea_cn, ea_cc, ea_mapd, ev_non_bl, ev_non_int, ev_non_str, ev_non_tup, ev_non_lst, ev_bl_non, ev_bl_str, ev_bl_tup, ev_bl_lst, ev_int_non, ev_int_str, ev_int_tup, ev_int_lst, ev_str_non, ev_str_bl, ev_str_int, ev_str_tup, ev_str_lst, ev_tup_non, ev_tup_bl, ev_tup_int, ev_tup_str, ev_tup_lst, ev_lst_non, ev_lst_bl, ev_lst_int, ev_lst_str, ev_lst_tup, wipeE_nil, wipeE_cons, cast_0, cast_1, cast_2, cast_3, cast_4, cast_5, cast_6, cast_7, cast_8, cast_9, cast_10, cast_11, cast_12, keysOf_nil, keysOf_cons, mergeS_nil, mergeS_cons, inR_s, sz_lt, sz_le, leq_nn, leq_nc, leq_cn, leq_cc, key_ss, key_ii, key_is, key_si, findK_nil, findK_cons, mapS_nil, mapS_cons, putS_nil, putS_cons, Option.bind_some, Option.map_some, Option.bind_none, Option.map_none, List.set_cons_zero, List.set_cons_succ, List.set_nil, List.getElem?_cons_zero, List.getElem?_cons_succ, List.length_cons, List.length_nil, List.nil_append, List.cons_append, List.map_cons, List.map_nil, if_true, if_false, Bool.false_eq_true, reduceIte, List.all_cons, List.all_nil, Bool.and_true, Bool.true_and, Bool.and_false, Bool.false_and, Bool.not_true, Bool.not_false, Bool.or_false, Bool.or_true, Bool.false_or, Bool.true_or, and_self, and_true, true_and, Int.toNat_natCast, decide_true, decide_false, List.take_zero, List.take_nil, List.take_succ_cons, List.drop_succ_cons, List.drop_zero, List.drop_nil, List.set_nil, List.replicate_succ, List.replicate_zero, List.foldl_cons, List.foldl_nil, Nat.reduceSub, Nat.reduceAdd, Nat.reduceLT, Nat.reduceLeDiff, Nat.reduceEqDiff, Nat.reduceMul, Int.reduceAdd, Int.reduceSub, Int.reduceMul, Int.reduceLT, Int.reduceLE, Int.reduceNeg, Int.reducePow, Int.reduceToNat, or_true, true_or, or_false, false_or, false_and, and_false, Nat.reducePow, not_true_eq_false, not_false_eq_true, Nat.add_zero, Nat.zero_add, Nat.sub_self, Nat.sub_zero, reduceCtorEq, Option.map_map, Int.reduceEq, Int.reduceNe, Int.reduceMod, Int.reduceDiv, List.append_nil, rngL_zero, at0, at1, at2]
  refine (c_next h [] _ (by simp; omega)).mono ?_
  rintro p ⟨i, w1, rfl, i0, i1, h1⟩
  obtain ⟨i, rfl⟩ := Int.eq_ofNat_of_zero_le i0
  have hi : i < b.length := by simpa using i1
  have hrow := hb.row _ (List.getElem_mem hi)
  have hrn : b[i] ≠ [] := fun e => by rw [e] at hrow; simp at hrow; omega
  simp -implicitDefEqProofs only [run_bind, run_some, run_none, run_map, a_var, a_c, a_op, a_un, a_chain, tst_b, a_test, a_and, a_or, a_not, a_andV, a_orV, a_notV, a_if, a_nil, a_cons, a_tup, a_lst, a_new, a_fn, a_isi, a_call, asI_i, a_part, a_noPart, a_cut, a_app, a_ext, a_index, a_sub, a_ps0, a_ps1, a_disp, a_lc, a_tt, a_skip, andThen_nx, andThen_rt, andThen_bk, andThen_ct, a_seq, a_expr, a_ret, a_retN, a_brk, a_cnt, a_ifS, a_set, a_aug, a_asg, two_eq, a_par, a_put, a_daug, a_for, a_scoped, frzO_nx, frzO_bk, frzO_ct, frzO_rt, frzS_d, frzS_r, frzE_nil, frzE_none, frzE_some, a_gN, a_gsNil, a_gsCons, a_gTp, asStr_s, a_strI, asRng_i, a_rng1, asRng2_i, a_rng2, chkOf_d, a_seqI, a_cYes, items_tup, items_lst, litems_lst, ditems_tup, ditems_lst, toD_d, dataAll_nil, dataAll_cons, dataAll_mapd, asD_d, v_ii, v_addI, v_addS, v_addT, v_addL, v_neg, v_ltI, v_ltS, v_eq, v_ne, v_inS, v_notInS, v_ixS, v_ixR, v_ixT, v_ixL, v_cutS, v_cutT, v_cutL, v_lenS, v_lenR, v_lenT, v_lenL, v_abs, v_int1, v_listT, v_listL, v_tupleT, v_tupleL, v_isN, v_notN, isN_non, isN_r, isN_bl, isN_int, isN_str, isN_tup, isN_lst, ty_non, ty_bl, ty_int, ty_str, ty_tup, ty_lst, keyOf_i, keyOf_s, gAddI_i, gSubI_i, index_s, idxKind_s, isDat_d, isDat_r, svB_d, svB_r, moB_lst, moB_dk, natAbs10, asL_l, asK_k, itL_l, liL_l, tdL_l, tdL_k, dsL_k, dsL_l, tyL_l, tyL_k, lstAt_r, dkAt_r, items_r, litems_r, toD_r, dkS_r, dkS_tup, dkS_lst, dkS_dk, dkS_str, tyS_r, v_ixRef, v_lenRef, v_cutRef, ditems_r, v_listRef, v_tupleRef, v_eqRef, v_neRef, v_addRR, v_addRL, v_addLR, finO_nx, finO_rt, finO_bk, finO_ct, isTy_int_NoneType, isTy_int_bool, isTy_int_int, isTy_int_str, isTy_int_tuple, isTy_int_list, isTy_int_dict, isTy_bool_NoneType, isTy_bool_bool, isTy_bool_int, isTy_bool_str, isTy_bool_tuple, isTy_bool_list, isTy_bool_dict, isTy_str_NoneType, isTy_str_bool, isTy_str_int, isTy_str_str, isTy_str_tuple, isTy_str_list, isTy_str_dict, isTy_tuple_NoneType, isTy_tuple_bool, isTy_tuple_int, isTy_tuple_str, isTy_tuple_tuple, isTy_tuple_list, isTy_tuple_dict, isTy_list_NoneType, isTy_list_bool, isTy_list_int, isTy_list_str, isTy_list_tuple, isTy_list_list, isTy_list_dict, isTy_dict_NoneType, isTy_dict_bool, isTy_dict_int, isTy_dict_str, isTy_dict_tuple, isTy_dict_list, isTy_dict_dict, eo_non, eo_bl, eo_int, eo_str, eo_tup, eo_lst, ev_nn, ev_ii, ev_bb, ev_ss, ev_tt, ev_ll, ea_nn, ea_nc, ea_cn, ea_cc, ea_mapd, ev_non_bl, ev_non_int, ev_non_str, ev_non_tup, ev_non_lst, ev_bl_non, ev_bl_str, ev_bl_tup, ev_bl_lst, ev_int_non, ev_int_str, ev_int_tup, ev_int_lst, ev_str_non, ev_str_bl, ev_str_int, ev_str_tup, ev_str_lst, ev_tup_non, ev_tup_bl, ev_tup_int, ev_tup_str, ev_tup_lst, ev_lst_non, ev_lst_bl, ev_lst_int, ev_lst_str, ev_lst_tup, wipeE_nil, wipeE_cons, cast_0, cast_1, cast_2, cast_3, cast_4, cast_5, cast_6, cast_7, cast_8, cast_9, cast_10, cast_11, cast_12, keysOf_nil, keysOf_cons, mergeS_nil, mergeS_cons, inR_s, sz_lt, sz_le, leq_nn, leq_nc, leq_cn, leq_cc, key_ss, key_ii, key_is, key_si, findK_nil, findK_cons, mapS_nil, mapS_cons, putS_nil, putS_cons, Option.bind_some, Option.map_some, Option.bind_none, Option.map_none, List.set_cons_zero, List.set_cons_succ, List.set_nil, List.getElem?_cons_zero, List.getElem?_cons_succ, List.length_cons, List.length_nil, List.nil_append, List.cons_append, List.map_cons, List.map_nil, if_true, if_false, Bool.false_eq_true, reduceIte, List.all_cons, List.all_nil, Bool.and_true, Bool.true_and, Bool.and_false, Bool.false_and, Bool.not_true, Bool.not_false, Bool.or_false, Bool.or_true, Bool.false_or, Bool.true_or, and_self, and_true, true_and, Int.toNat_natCast, decide_true, decide_false, List.take_zero, List.take_nil, List.take_succ_cons, List.drop_succ_cons, List.drop_zero, List.drop_nil, List.set_nil, List.replicate_succ, List.replicate_zero, List.foldl_cons, List.foldl_nil, Nat.reduceSub, Nat.reduceAdd, Nat.reduceLT, Nat.reduceLeDiff, Nat.reduceEqDiff, Nat.reduceMul, Int.reduceAdd, Int.reduceSub, Int.reduceMul, Int.reduceLT, Int.reduceLE, Int.reduceNeg, Int.reducePow, Int.reduceToNat, or_true, true_or, or_false, false_or, false_and, and_false, Nat.reducePow, not_true_eq_false, not_false_eq_true, Nat.add_zero, Nat.zero_add, Nat.sub_self, Nat.sub_zero, reduceCtorEq, Option.map_map, Int.reduceEq, Int.reduceNe, Int.reduceMod, Int.reduceDiv, List.append_nil, rngL_zero, at0, at1, at2, atI_mapn hi]
  have e1 : b[i].isEmpty = false := List.isEmpty_eq_false_iff.mpr hrn
  simp -implicitDefEqProofs only [run_bind, run_some, run_none, run_map, a_var, a_c, a_op, a_un, a_chain, tst_b, a_test, a_and, a_or, a_not, a_andV, a_orV, a_notV, a_if, a_nil, a_cons, a_tup, a_lst, a_new, a_fn, a_isi, a_call, asI_i, a_part, a_noPart, a_cut, a_app, a_ext, a_index, a_sub, a_ps0, a_ps1, a_disp, a_lc, a_tt, a_skip, andThen_nx, andThen_rt, andThen_bk, andThen_ct, a_seq, a_expr, a_ret, a_retN, a_brk, a_cnt, a_ifS, a_set, a_aug, a_asg, two_eq, a_par, a_put, a_daug, a_for, a_scoped, frzO_nx, frzO_bk, frzO_ct, frzO_rt, frzS_d, frzS_r, frzE_nil, frzE_none, frzE_some, a_gN, a_gsNil, a_gsCons, a_gTp, asStr_s, a_strI, asRng_i, a_rng1, asRng2_i, a_rng2, chkOf_d, a_seqI, a_cYes, items_tup, items_lst, litems_lst, ditems_tup, ditems_lst, toD_d, dataAll_nil, dataAll_cons, dataAll_mapd, asD_d, v_ii, v_addI, v_addS, v_addT, v_addL, v_neg, v_ltI, v_ltS, v_eq, v_ne, v_inS, v_notInS, v_ixS, v_ixR, v_ixT, v_ixL, v_cutS, v_cutT, v_cutL, v_lenS, v_lenR, v_lenT, v_lenL, v_abs, v_int1, v_listT, v_listL, v_tupleT, v_tupleL, v_isN, v_notN, isN_non, isN_r, isN_bl, isN_int, isN_str, isN_tup, isN_lst, ty_non, ty_bl, ty_int, ty_str, ty_tup, ty_lst, keyOf_i, keyOf_s, gAddI_i, gSubI_i, index_s, idxKind_s, isDat_d, isDat_r, svB_d, svB_r, moB_lst, moB_dk, natAbs10, asL_l, asK_k, itL_l, liL_l, tdL_l, tdL_k, dsL_k, dsL_l, tyL_l, tyL_k, lstAt_r, dkAt_r, items_r, litems_r, toD_r, dkS_r, dkS_tup, dkS_lst, dkS_dk, dkS_str, tyS_r, v_ixRef, v_lenRef, v_cutRef, ditems_r, v_listRef, v_tupleRef, v_eqRef, v_neRef, v_addRR, v_addRL, v_addLR, finO_nx, finO_rt, finO_bk, finO_ct, isTy_int_NoneType, isTy_int_bool, isTy_int_int, isTy_int_str, isTy_int_tuple, isTy_int_list, isTy_int_dict, isTy_bool_NoneType, isTy_bool_bool, isTy_bool_int, isTy_bool_str, isTy_bool_tuple, isTy_bool_list, isTy_bool_dict, isTy_str_NoneType, isTy_str_bool, isTy_str_int, isTy_str_str, isTy_str_tuple, isTy_str_list, isTy_str_dict, isTy_tuple_NoneType, isTy_tuple_bool, isTy_tuple_int, isTy_tuple_str, isTy_tuple_tuple, isTy_tuple_list, isTy_tuple_dict, isTy_list_NoneType, isTy_list_bool, isTy_list_int, isTy_list_str, isTy_list_tuple, isTy_list_list, isTy_list_dict, isTy_dict_NoneType, isTy_dict_bool, isTy_dict_int, isTy_dict_str, isTy_dict_tuple, isTy_dict_list, isTy_dict_dict, eo_non, eo_bl, eo_int, eo_str, eo_tup, eo_lst, ev_nn, ev_ii, ev_bb, ev_ss, ev_tt, ev_ll, ea_nn, ea_nc, ea_cn, ea_cc, ea_mapd, ev_non_bl, ev_non_int, ev_non_str, ev_non_tup, ev_non_lst, ev_bl_non, ev_bl_str, ev_bl_tup, ev_bl_lst, ev_int_non, ev_int_str, ev_int_tup, ev_int_lst, ev_str_non, ev_str_bl, ev_str_int, ev_str_tup, ev_str_lst, ev_tup_non, ev_tup_bl, ev_tup_int, ev_tup_str, ev_tup_lst, ev_lst_non, ev_lst_bl, ev_lst_int, ev_lst_str, ev_lst_tup, wipeE_nil, wipeE_cons, cast_0, cast_1, cast_2, cast_3, cast_4, cast_5, cast_6, cast_7, cast_8, cast_9, cast_10, cast_11, cast_12, keysOf_nil, keysOf_cons, mergeS_nil, mergeS_cons, inR_s, sz_lt, sz_le, leq_nn, leq_nc, leq_cn, leq_cc, key_ss, key_ii, key_is, key_si, findK_nil, findK_cons, mapS_nil, mapS_cons, putS_nil, putS_cons, Option.bind_some, Option.map_some, Option.bind_none, Option.map_none, List.set_cons_zero, List.set_cons_succ, List.set_nil, List.getElem?_cons_zero, List.getElem?_cons_succ, List.length_cons, List.length_nil, List.nil_append, List.cons_append, List.map_cons, List.map_nil, if_true, if_false, Bool.false_eq_true, reduceIte, List.all_cons, List.all_nil, Bool.and_true, Bool.true_and, Bool.and_false, Bool.false_and, Bool.not_true, Bool.not_false, Bool.or_false, Bool.or_true, Bool.false_or, Bool.true_or, and_self, and_true, true_and, Int.toNat_natCast, decide_true, decide_false, List.take_zero, List.take_nil, List.take_succ_cons, List.drop_succ_cons, List.drop_zero, List.drop_nil, List.set_nil, List.replicate_succ, List.replicate_zero, List.foldl_cons, List.foldl_nil, Nat.reduceSub, Nat.reduceAdd, Nat.reduceLT, Nat.reduceLeDiff, Nat.reduceEqDiff, Nat.reduceMul, Int.reduceAdd, Int.reduceSub, Int.reduceMul, Int.reduceLT, Int.reduceLE, Int.reduceNeg, Int.reducePow, Int.reduceToNat, or_true, true_or, or_false, false_or, false_and, and_false, Nat.reducePow, not_true_eq_false, not_false_eq_true, Nat.add_zero, Nat.zero_add, Nat.sub_self, Nat.sub_zero, reduceCtorEq, Option.map_map, Int.reduceEq, Int.reduceNe, Int.reduceMod, Int.reduceDiv, List.append_nil, rngL_zero, at0, at1, at2, e1, ok_ps]
  refine (c_next h1 [] 5 (by omega)).mono ?_
  rintro p ⟨j, w2, rfl, j0, j1, h2⟩
  simp -implicitDefEqProofs only [run_bind, run_some, run_none, run_map, a_var, a_c, a_op, a_un, a_chain, tst_b, a_test, a_and, a_or, a_not, a_andV, a_orV, a_notV, a_if, a_nil, a_cons, a_tup, a_lst, a_new, a_fn, a_isi, a_call, asI_i, a_part, a_noPart, a_cut, a_app, a_ext, a_index, a_sub, a_ps0, a_ps1, a_disp, a_lc, a_tt, a_skip, andThen_nx, andThen_rt, andThen_bk, andThen_ct, a_seq, a_expr, a_ret, a_retN, a_brk, a_cnt, a_ifS, a_set, a_aug, a_asg, two_eq, a_par, a_put, a_daug, a_for, a_scoped, frzO_nx, frzO_bk, frzO_ct, frzO_rt, frzS_d, frzS_r, frzE_nil, frzE_none, frzE_some, a_gN, a_gsNil, a_gsCons, a_gTp, asStr_s, a_strI, asRng_i, a_rng1, asRng2_i, a_rng2, chkOf_d, a_seqI, a_cYes, items_tup, items_lst, litems_lst, ditems_tup, ditems_lst, toD_d, dataAll_nil, dataAll_cons, dataAll_mapd, asD_d, v_ii, v_addI, v_addS, v_addT, v_addL, v_neg, v_ltI, v_ltS, v_eq, v_ne, v_inS, v_notInS, v_ixS, v_ixR, v_ixT, v_ixL, v_cutS, v_cutT, v_cutL, v_lenS, v_lenR, v_lenT, v_lenL, v_abs, v_int1, v_listT, v_listL, v_tupleT, v_tupleL, v_isN, v_notN, isN_non, isN_r, isN_bl, isN_int, isN_str, isN_tup, isN_lst, ty_non, ty_bl, ty_int, ty_str, ty_tup, ty_lst, keyOf_i, keyOf_s, gAddI_i, gSubI_i, index_s, idxKind_s, isDat_d, isDat_r, svB_d, svB_r, moB_lst, moB_dk, natAbs10, asL_l, asK_k, itL_l, liL_l, tdL_l, tdL_k, dsL_k, dsL_l, tyL_l, tyL_k, lstAt_r, dkAt_r, items_r, litems_r, toD_r, dkS_r, dkS_tup, dkS_lst, dkS_dk, dkS_str, tyS_r, v_ixRef, v_lenRef, v_cutRef, ditems_r, v_listRef, v_tupleRef, v_eqRef, v_neRef, v_addRR, v_addRL, v_addLR, finO_nx, finO_rt, finO_bk, finO_ct, isTy_int_NoneType, isTy_int_bool, isTy_int_int, isTy_int_str, isTy_int_tuple, isTy_int_list, isTy_int_dict, isTy_bool_NoneType, isTy_bool_bool, isTy_bool_int, isTy_bool_str, isTy_bool_tuple, isTy_bool_list, isTy_bool_dict, isTy_str_NoneType, isTy_str_bool, isTy_str_int, isTy_str_str, isTy_str_tuple, isTy_str_list, isTy_str_dict, isTy_tuple_NoneType, isTy_tuple_bool, isTy_tuple_int, isTy_tuple_str, isTy_tuple_tuple, isTy_tuple_list, isTy_tuple_dict, isTy_list_NoneType, isTy_list_bool, isTy_list_int, isTy_list_str, isTy_list_tuple, isTy_list_list, isTy_list_dict, isTy_dict_NoneType, isTy_dict_bool, isTy_dict_int, isTy_dict_str, isTy_dict_tuple, isTy_dict_list, isTy_dict_dict, eo_non, eo_bl, eo_int, eo_str, eo_tup, eo_lst, ev_nn, ev_ii, ev_bb, ev_ss, ev_tt, ev_ll, ea_nn, ea_nc, ea_cn, ea_cc, ea_mapd, ev_non_bl, ev_non_int, ev_non_str, ev_non_tup, ev_non_lst, ev_bl_non, ev_bl_str, ev_bl_tup, ev_bl_lst, ev_int_non, ev_int_str, ev_int_tup, ev_int_lst, ev_str_non, ev_str_bl, ev_str_int, ev_str_tup, ev_str_lst, ev_tup_non, ev_tup_bl, ev_tup_int, ev_tup_str, ev_tup_lst, ev_lst_non, ev_lst_bl, ev_lst_int, ev_lst_str, ev_lst_tup, wipeE_nil, wipeE_cons, cast_0, cast_1, cast_2, cast_3, cast_4, cast_5, cast_6, cast_7, cast_8, cast_9, cast_10, cast_11, cast_12, keysOf_nil, keysOf_cons, mergeS_nil, mergeS_cons, inR_s, sz_lt, sz_le, leq_nn, leq_nc, leq_cn, leq_cc, key_ss, key_ii, key_is, key_si, findK_nil, findK_cons, mapS_nil, mapS_cons, putS_nil, putS_cons, Option.bind_some, Option.map_some, Option.bind_none, Option.map_none, List.set_cons_zero, List.set_cons_succ, List.set_nil, List.getElem?_cons_zero, List.getElem?_cons_succ, List.length_cons, List.length_nil, List.nil_append, List.cons_append, List.map_cons, List.map_nil, if_true, if_false, Bool.false_eq_true, reduceIte, List.all_cons, List.all_nil, Bool.and_true, Bool.true_and, Bool.and_false, Bool.false_and, Bool.not_true, Bool.not_false, Bool.or_false, Bool.or_true, Bool.false_or, Bool.true_or, and_self, and_true, true_and, Int.toNat_natCast, decide_true, decide_false, List.take_zero, List.take_nil, List.take_succ_cons, List.drop_succ_cons, List.drop_zero, List.drop_nil, List.set_nil, List.replicate_succ, List.replicate_zero, List.foldl_cons, List.foldl_nil, Nat.reduceSub, Nat.reduceAdd, Nat.reduceLT, Nat.reduceLeDiff, Nat.reduceEqDiff, Nat.reduceMul, Int.reduceAdd, Int.reduceSub, Int.reduceMul, Int.reduceLT, Int.reduceLE, Int.reduceNeg, Int.reducePow, Int.reduceToNat, or_true, true_or, or_false, false_or, false_and, and_false, Nat.reducePow, not_true_eq_false, not_false_eq_true, Nat.add_zero, Nat.zero_add, Nat.sub_self, Nat.sub_zero, reduceCtorEq, Option.map_map, Int.reduceEq, Int.reduceNe, Int.reduceMod, Int.reduceDiv, List.append_nil, rngL_zero, at0, at1, at2]
  have c1 := cutL_length (b.map rD) none (some (i : Int))
  have c2 := cutL_length (b.map rD) (some ((i : Int) + 1)) none
  rw [List.length_map] at c1 c2
  have hw := wM_mo h2
  refine run_ite (fun _ => ?_) (fun _ => ?_)
  · have z1 : (cutL (b.map rD) none (some (i : Int))).length + (cutL (b.map rD) (some ((i : Int) + 1)) none).length ≤ 100000 := by omega
    have z2 : b.length + 1 ≤ 100000 := by omega
    have z3 : (cutL (b.map rD) none (some (i : Int))).length + 1 ≤ 100000 := by omega
    have z4 : (cutL (b.map rD) none (some (i : Int)) ++ [D.lst (b[i].map pD)]).length + (cutL (b.map rD) (some ((i : Int) + 1)) none).length ≤ 100000 := by simp; omega
    simp -implicitDefEqProofs only [run_bind, run_some, run_none, run_map, a_var, a_c, a_op, a_un, a_chain, tst_b, a_test, a_and, a_or, a_not, a_andV, a_orV, a_notV, a_if, a_nil, a_cons, a_tup, a_lst, a_new, a_fn, a_isi, a_call, asI_i, a_part, a_noPart, a_cut, a_app, a_ext, a_index, a_sub, a_ps0, a_ps1, a_disp, a_lc, a_tt, a_skip, andThen_nx, andThen_rt, andThen_bk, andThen_ct, a_seq, a_expr, a_ret, a_retN, a_brk, a_cnt, a_ifS, a_set, a_aug, a_asg, two_eq, a_par, a_put, a_daug, a_for, a_scoped, frzO_nx, frzO_bk, frzO_ct, frzO_rt, frzS_d, frzS_r, frzE_nil, frzE_none, frzE_some, a_gN, a_gsNil, a_gsCons, a_gTp, asStr_s, a_strI, asRng_i, a_rng1, asRng2_i, a_rng2, chkOf_d, a_seqI, a_cYes, items_tup, items_lst, litems_lst, ditems_tup, ditems_lst, toD_d, dataAll_nil, dataAll_cons, dataAll_mapd, asD_d, v_ii, v_addI, v_addS, v_addT, v_addL, v_neg, v_ltI, v_ltS, v_eq, v_ne, v_inS, v_notInS, v_ixS, v_ixR, v_ixT, v_ixL, v_cutS, v_cutT, v_cutL, v_lenS, v_lenR, v_lenT, v_lenL, v_abs, v_int1, v_listT, v_listL, v_tupleT, v_tupleL, v_isN, v_notN, isN_non, isN_r, isN_bl, isN_int, isN_str, isN_tup, isN_lst, ty_non, ty_bl, ty_int, ty_str, ty_tup, ty_lst, keyOf_i, keyOf_s, gAddI_i, gSubI_i, index_s, idxKind_s, isDat_d, isDat_r, svB_d, svB_r, moB_lst, moB_dk, natAbs10, asL_l, asK_k, itL_l, liL_l, tdL_l, tdL_k, dsL_k, dsL_l, tyL_l, tyL_k, lstAt_r, dkAt_r, items_r, litems_r, toD_r, dkS_r, dkS_tup, dkS_lst, dkS_dk, dkS_str, tyS_r, v_ixRef, v_lenRef, v_cutRef, ditems_r, v_listRef, v_tupleRef, v_eqRef, v_neRef, v_addRR, v_addRL, v_addLR, finO_nx, finO_rt, finO_bk, finO_ct, isTy_int_NoneType, isTy_int_bool, isTy_int_int, isTy_int_str, isTy_int_tuple, isTy_int_list, isTy_int_dict, isTy_bool_NoneType, isTy_bool_bool, isTy_bool_int, isTy_bool_str, isTy_bool_tuple, isTy_bool_list, isTy_bool_dict, isTy_str_NoneType, isTy_str_bool, isTy_str_int, isTy_str_str, isTy_str_tuple, isTy_str_list, isTy_str_dict, isTy_tuple_NoneType, isTy_tuple_bool, isTy_tuple_int, isTy_tuple_str, isTy_tuple_tuple, isTy_tuple_list, isTy_tuple_dict, isTy_list_NoneType, isTy_list_bool, isTy_list_int, isTy_list_str, isTy_list_tuple, isTy_list_list, isTy_list_dict, isTy_dict_NoneType, isTy_dict_bool, isTy_dict_int, isTy_dict_str, isTy_dict_tuple, isTy_dict_list, isTy_dict_dict, eo_non, eo_bl, eo_int, eo_str, eo_tup, eo_lst, ev_nn, ev_ii, ev_bb, ev_ss, ev_tt, ev_ll, ea_nn, ea_nc, ea_cn, ea_cc, ea_mapd, ev_non_bl, ev_non_int, ev_non_str, ev_non_tup, ev_non_lst, ev_bl_non, ev_bl_str, ev_bl_tup, ev_bl_lst, ev_int_non, ev_int_str, ev_int_tup, ev_int_lst, ev_str_non, ev_str_bl, ev_str_int, ev_str_tup, ev_str_lst, ev_tup_non, ev_tup_bl, ev_tup_int, ev_tup_str, ev_tup_lst, ev_lst_non, ev_lst_bl, ev_lst_int, ev_lst_str, ev_lst_tup, wipeE_nil, wipeE_cons, cast_0, cast_1, cast_2, cast_3, cast_4, cast_5, cast_6, cast_7, cast_8, cast_9, cast_10, cast_11, cast_12, keysOf_nil, keysOf_cons, mergeS_nil, mergeS_cons, inR_s, sz_lt, sz_le, leq_nn, leq_nc, leq_cn, leq_cc, key_ss, key_ii, key_is, key_si, findK_nil, findK_cons, mapS_nil, mapS_cons, putS_nil, putS_cons, Option.bind_some, Option.map_some, Option.bind_none, Option.map_none, List.set_cons_zero, List.set_cons_succ, List.set_nil, List.getElem?_cons_zero, List.getElem?_cons_succ, List.length_cons, List.length_nil, List.nil_append, List.cons_append, List.map_cons, List.map_nil, if_true, if_false, Bool.false_eq_true, reduceIte, List.all_cons, List.all_nil, Bool.and_true, Bool.true_and, Bool.and_false, Bool.false_and, Bool.not_true, Bool.not_false, Bool.or_false, Bool.or_true, Bool.false_or, Bool.true_or, and_self, and_true, true_and, Int.toNat_natCast, decide_true, decide_false, List.take_zero, List.take_nil, List.take_succ_cons, List.drop_succ_cons, List.drop_zero, List.drop_nil, List.set_nil, List.replicate_succ, List.replicate_zero, List.foldl_cons, List.foldl_nil, Nat.reduceSub, Nat.reduceAdd, Nat.reduceLT, Nat.reduceLeDiff, Nat.reduceEqDiff, Nat.reduceMul, Int.reduceAdd, Int.reduceSub, Int.reduceMul, Int.reduceLT, Int.reduceLE, Int.reduceNeg, Int.reducePow, Int.reduceToNat, or_true, true_or, or_false, false_or, false_and, and_false, Nat.reducePow, not_true_eq_false, not_false_eq_true, Nat.add_zero, Nat.zero_add, Nat.sub_self, Nat.sub_zero, reduceCtorEq, Option.map_map, Int.reduceEq, Int.reduceNe, Int.reduceMod, Int.reduceDiv, List.append_nil, rngL_zero, at0, at1, at2, sz_le z1, sz_le z2, sz_le z3, sz_le z4, List.length_map]
    refine (c_pickL h2 [] (by simp)).mono ?_
    rintro p ⟨d, hd, w3, rfl, h3⟩
    have hw := wM_mo h3
    simp -implicitDefEqProofs only [run_bind, run_some, run_none, run_map, a_var, a_c, a_op, a_un, a_chain, tst_b, a_test, a_and, a_or, a_not, a_andV, a_orV, a_notV, a_if, a_nil, a_cons, a_tup, a_lst, a_new, a_fn, a_isi, a_call, asI_i, a_part, a_noPart, a_cut, a_app, a_ext, a_index, a_sub, a_ps0, a_ps1, a_disp, a_lc, a_tt, a_skip, andThen_nx, andThen_rt, andThen_bk, andThen_ct, a_seq, a_expr, a_ret, a_retN, a_brk, a_cnt, a_ifS, a_set, a_aug, a_asg, two_eq, a_par, a_put, a_daug, a_for, a_scoped, frzO_nx, frzO_bk, frzO_ct, frzO_rt, frzS_d, frzS_r, frzE_nil, frzE_none, frzE_some, a_gN, a_gsNil, a_gsCons, a_gTp, asStr_s, a_strI, asRng_i, a_rng1, asRng2_i, a_rng2, chkOf_d, a_seqI, a_cYes, items_tup, items_lst, litems_lst, ditems_tup, ditems_lst, toD_d, dataAll_nil, dataAll_cons, dataAll_mapd, asD_d, v_ii, v_addI, v_addS, v_addT, v_addL, v_neg, v_ltI, v_ltS, v_eq, v_ne, v_inS, v_notInS, v_ixS, v_ixR, v_ixT, v_ixL, v_cutS, v_cutT, v_cutL, v_lenS, v_lenR, v_lenT, v_lenL, v_abs, v_int1, v_listT, v_listL, v_tupleT, v_tupleL, v_isN, v_notN, isN_non, isN_r, isN_bl, isN_int, isN_str, isN_tup, isN_lst, ty_non, ty_bl, ty_int, ty_str, ty_tup, ty_lst, keyOf_i, keyOf_s, gAddI_i, gSubI_i, index_s, idxKind_s, isDat_d, isDat_r, svB_d, svB_r, moB_lst, moB_dk, natAbs10, asL_l, asK_k, itL_l, liL_l, tdL_l, tdL_k, dsL_k, dsL_l, tyL_l, tyL_k, lstAt_r, dkAt_r, items_r, litems_r, toD_r, dkS_r, dkS_tup, dkS_lst, dkS_dk, dkS_str, tyS_r, v_ixRef, v_lenRef, v_cutRef, ditems_r, v_listRef, v_tupleRef, v_eqRef, v_neRef, v_addRR, v_addRL, v_addLR, finO_nx, finO_rt, finO_bk, finO_ct, isTy_int_NoneType, isTy_int_bool, isTy_int_int, isTy_int_str, isTy_int_tuple, isTy_int_list, isTy_int_dict, isTy_bool_NoneType, isTy_bool_bool, isTy_bool_int, isTy_bool_str, isTy_bool_tuple, isTy_bool_list, isTy_bool_dict, isTy_str_NoneType, isTy_str_bool, isTy_str_int, isTy_str_str, isTy_str_tuple, isTy_str_list, isTy_str_dict, isTy_tuple_NoneType, isTy_tuple_bool, isTy_tuple_int, isTy_tuple_str, isTy_tuple_tuple, isTy_tuple_list, isTy_tuple_dict, isTy_list_NoneType, isTy_list_bool, isTy_list_int, isTy_list_str, isTy_list_tuple, isTy_list_list, isTy_list_dict, isTy_dict_NoneType, isTy_dict_bool, isTy_dict_int, isTy_dict_str, isTy_dict_tuple, isTy_dict_list, isTy_dict_dict, eo_non, eo_bl, eo_int, eo_str, eo_tup, eo_lst, ev_nn, ev_ii, ev_bb, ev_ss, ev_tt, ev_ll, ea_nn, ea_nc, ea_cn, ea_cc, ea_mapd, ev_non_bl, ev_non_int, ev_non_str, ev_non_tup, ev_non_lst, ev_bl_non, ev_bl_str, ev_bl_tup, ev_bl_lst, ev_int_non, ev_int_str, ev_int_tup, ev_int_lst, ev_str_non, ev_str_bl, ev_str_int, ev_str_tup, ev_str_lst, ev_tup_non, ev_tup_bl, ev_tup_int, ev_tup_str, ev_tup_lst, ev_lst_non, ev_lst_bl, ev_lst_int, ev_lst_str, ev_lst_tup, wipeE_nil, wipeE_cons, cast_0, cast_1, cast_2, cast_3, cast_4, cast_5, cast_6, cast_7, cast_8, cast_9, cast_10, cast_11, cast_12, keysOf_nil, keysOf_cons, mergeS_nil, mergeS_cons, inR_s, sz_lt, sz_le, leq_nn, leq_nc, leq_cn, leq_cc, key_ss, key_ii, key_is, key_si, findK_nil, findK_cons, mapS_nil, mapS_cons, putS_nil, putS_cons, Option.bind_some, Option.map_some, Option.bind_none, Option.map_none, List.set_cons_zero, List.set_cons_succ, List.set_nil, List.getElem?_cons_zero, List.getElem?_cons_succ, List.length_cons, List.length_nil, List.nil_append, List.cons_append, List.map_cons, List.map_nil, if_true, if_false, Bool.false_eq_true, reduceIte, List.all_cons, List.all_nil, Bool.and_true, Bool.true_and, Bool.and_false, Bool.false_and, Bool.not_true, Bool.not_false, Bool.or_false, Bool.or_true, Bool.false_or, Bool.true_or, and_self, and_true, true_and, Int.toNat_natCast, decide_true, decide_false, List.take_zero, List.take_nil, List.take_succ_cons, List.drop_succ_cons, List.drop_zero, List.drop_nil, List.set_nil, List.replicate_succ, List.replicate_zero, List.foldl_cons, List.foldl_nil, Nat.reduceSub, Nat.reduceAdd, Nat.reduceLT, Nat.reduceLeDiff, Nat.reduceEqDiff, Nat.reduceMul, Int.reduceAdd, Int.reduceSub, Int.reduceMul, Int.reduceLT, Int.reduceLE, Int.reduceNeg, Int.reducePow, Int.reduceToNat, or_true, true_or, or_false, false_or, false_and, and_false, Nat.reducePow, not_true_eq_false, not_false_eq_true, Nat.add_zero, Nat.zero_add, Nat.sub_self, Nat.sub_zero, reduceCtorEq, Option.map_map, Int.reduceEq, Int.reduceNe, Int.reduceMod, Int.reduceDiv, List.append_nil, rngL_zero, at0, at1, at2, hw]
    refine ⟨d, w3, rfl, h3, ?_⟩
    have q1 := all_cut (lo := none) (hi := some (i : Int)) (ok_rows 27 b)
    have q2 := all_cut (lo := some ((i : Int) + 1)) (hi := none) (ok_rows 27 b)
    simp only [List.mem_cons, List.not_mem_nil, or_false] at hd
    rcases hd with rfl | rfl | rfl | rfl | rfl | rfl | rfl <;> simp only [eo_tup, eo_lst, eo_non, eo_int, List.all_append, q1, q2, ok_rows, ok_ps, List.all_cons, List.all_nil, Bool.and_self, Bool.and_true, Bool.true_and]
  · simp -implicitDefEqProofs only [run_bind, run_some, run_none, run_map, a_var, a_c, a_op, a_un, a_chain, tst_b, a_test, a_and, a_or, a_not, a_andV, a_orV, a_notV, a_if, a_nil, a_cons, a_tup, a_lst, a_new, a_fn, a_isi, a_call, asI_i, a_part, a_noPart, a_cut, a_app, a_ext, a_index, a_sub, a_ps0, a_ps1, a_disp, a_lc, a_tt, a_skip, andThen_nx, andThen_rt, andThen_bk, andThen_ct, a_seq, a_expr, a_ret, a_retN, a_brk, a_cnt, a_ifS, a_set, a_aug, a_asg, two_eq, a_par, a_put, a_daug, a_for, a_scoped, frzO_nx, frzO_bk, frzO_ct, frzO_rt, frzS_d, frzS_r, frzE_nil, frzE_none, frzE_some, a_gN, a_gsNil, a_gsCons, a_gTp, asStr_s, a_strI, asRng_i, a_rng1, asRng2_i, a_rng2, chkOf_d, a_seqI, a_cYes, items_tup, items_lst, litems_lst, ditems_tup, ditems_lst, toD_d, dataAll_nil, dataAll_cons, dataAll_mapd, asD_d, v_ii, v_addI, v_addS, v_addT, v_addL, v_neg, v_ltI, v_ltS, v_eq, v_ne, v_inS, v_notInS, v_ixS, v_ixR, v_ixT, v_ixL, v_cutS, v_cutT, v_cutL, v_lenS, v_lenR, v_lenT, v_lenL, v_abs, v_int1, v_listT, v_listL, v_tupleT, v_tupleL, v_isN, v_notN, isN_non, isN_r, isN_bl, isN_int, isN_str, isN_tup, isN_lst, ty_non, ty_bl, ty_int, ty_str, ty_tup, ty_lst, keyOf_i, keyOf_s, gAddI_i, gSubI_i, index_s, idxKind_s, isDat_d, isDat_r, svB_d, svB_r, moB_lst, moB_dk, natAbs10, asL_l, asK_k, itL_l, liL_l, tdL_l, tdL_k, dsL_k, dsL_l, tyL_l, tyL_k, lstAt_r, dkAt_r, items_r, litems_r, toD_r, dkS_r, dkS_tup, dkS_lst, dkS_dk, dkS_str, tyS_r, v_ixRef, v_lenRef, v_cutRef, ditems_r, v_listRef, v_tupleRef, v_eqRef, v_neRef, v_addRR, v_addRL, v_addLR, finO_nx, finO_rt, finO_bk, finO_ct, isTy_int_NoneType, isTy_int_bool, isTy_int_int, isTy_int_str, isTy_int_tuple, isTy_int_list, isTy_int_dict, isTy_bool_NoneType, isTy_bool_bool, isTy_bool_int, isTy_bool_str, isTy_bool_tuple, isTy_bool_list, isTy_bool_dict, isTy_str_NoneType, isTy_str_bool, isTy_str_int, isTy_str_str, isTy_str_tuple, isTy_str_list, isTy_str_dict, isTy_tuple_NoneType, isTy_tuple_bool, isTy_tuple_int, isTy_tuple_str, isTy_tuple_tuple, isTy_tuple_list, isTy_tuple_dict, isTy_list_NoneType, isTy_list_bool, isTy_list_int, isTy_list_str, isTy_list_tuple, isTy_list_list, isTy_list_dict, isTy_dict_NoneType, isTy_dict_bool, isTy_dict_int, isTy_dict_str, isTy_dict_tuple, isTy_dict_list, isTy_dict_dict, eo_non, eo_bl, eo_int, eo_str, eo_tup, eo_lst, ev_nn, ev_ii, ev_bb, ev_ss, ev_tt, ev_ll, ea_nn, ea_nc, ea_cn, ea_cc, ea_mapd, ev_non_bl, ev_non_int, ev_non_str, ev_non_tup, ev_non_lst, ev_bl_non, ev_bl_str, ev_bl_tup, ev_bl_lst, ev_int_non, ev_int_str, ev_int_tup, ev_int_lst, ev_str_non, ev_str_bl, ev_str_int, ev_str_tup, ev_str_lst, ev_tup_non, ev_tup_bl, ev_tup_int, ev_tup_str, ev_tup_lst, ev_lst_non, ev_lst_bl, ev_lst_int, ev_lst_str, ev_lst_tup, wipeE_nil, wipeE_cons, cast_0, cast_1, cast_2, cast_3, cast_4, cast_5, cast_6, cast_7, cast_8, cast_9, cast_10, cast_11, cast_12, keysOf_nil, keysOf_cons, mergeS_nil, mergeS_cons, inR_s, sz_lt, sz_le, leq_nn, leq_nc, leq_cn, leq_cc, key_ss, key_ii, key_is, key_si, findK_nil, findK_cons, mapS_nil, mapS_cons, putS_nil, putS_cons, Option.bind_some, Option.map_some, Option.bind_none, Option.map_none, List.set_cons_zero, List.set_cons_succ, List.set_nil, List.getElem?_cons_zero, List.getElem?_cons_succ, List.length_cons, List.length_nil, List.nil_append, List.cons_append, List.map_cons, List.map_nil, if_true, if_false, Bool.false_eq_true, reduceIte, List.all_cons, List.all_nil, Bool.and_true, Bool.true_and, Bool.and_false, Bool.false_and, Bool.not_true, Bool.not_false, Bool.or_false, Bool.or_true, Bool.false_or, Bool.true_or, and_self, and_true, true_and, Int.toNat_natCast, decide_true, decide_false, List.take_zero, List.take_nil, List.take_succ_cons, List.drop_succ_cons, List.drop_zero, List.drop_nil, List.set_nil, List.replicate_succ, List.replicate_zero, List.foldl_cons, List.foldl_nil, Nat.reduceSub, Nat.reduceAdd, Nat.reduceLT, Nat.reduceLeDiff, Nat.reduceEqDiff, Nat.reduceMul, Int.reduceAdd, Int.reduceSub, Int.reduceMul, Int.reduceLT, Int.reduceLE, Int.reduceNeg, Int.reducePow, Int.reduceToNat, or_true, true_or, or_false, false_or, false_and, and_false, Nat.reducePow, not_true_eq_false, not_false_eq_true, Nat.add_zero, Nat.zero_add, Nat.sub_self, Nat.sub_zero, reduceCtorEq, Option.map_map, Int.reduceEq, Int.reduceNe, Int.reduceMod, Int.reduceDiv, List.append_nil, rngL_zero, at0, at1, at2]
    refine (c_next h2 [] _ (by simp; omega)).mono ?_
    rintro p ⟨k, w3, rfl, k0, k1, h3⟩
    obtain ⟨k, rfl⟩ := Int.eq_ofNat_of_zero_le k0
    have hk : k < b[i].length := by simpa using k1
    simp -implicitDefEqProofs only [run_bind, run_some, run_none, run_map, a_var, a_c, a_op, a_un, a_chain, tst_b, a_test, a_and, a_or, a_not, a_andV, a_orV, a_notV, a_if, a_nil, a_cons, a_tup, a_lst, a_new, a_fn, a_isi, a_call, asI_i, a_part, a_noPart, a_cut, a_app, a_ext, a_index, a_sub, a_ps0, a_ps1, a_disp, a_lc, a_tt, a_skip, andThen_nx, andThen_rt, andThen_bk, andThen_ct, a_seq, a_expr, a_ret, a_retN, a_brk, a_cnt, a_ifS, a_set, a_aug, a_asg, two_eq, a_par, a_put, a_daug, a_for, a_scoped, frzO_nx, frzO_bk, frzO_ct, frzO_rt, frzS_d, frzS_r, frzE_nil, frzE_none, frzE_some, a_gN, a_gsNil, a_gsCons, a_gTp, asStr_s, a_strI, asRng_i, a_rng1, asRng2_i, a_rng2, chkOf_d, a_seqI, a_cYes, items_tup, items_lst, litems_lst, ditems_tup, ditems_lst, toD_d, dataAll_nil, dataAll_cons, dataAll_mapd, asD_d, v_ii, v_addI, v_addS, v_addT, v_addL, v_neg, v_ltI, v_ltS, v_eq, v_ne, v_inS, v_notInS, v_ixS, v_ixR, v_ixT, v_ixL, v_cutS, v_cutT, v_cutL, v_lenS, v_lenR, v_lenT, v_lenL, v_abs, v_int1, v_listT, v_listL, v_tupleT, v_tupleL, v_isN, v_notN, isN_non, isN_r, isN_bl, isN_int, isN_str, isN_tup, isN_lst, ty_non, ty_bl, ty_int, ty_str, ty_tup, ty_lst, keyOf_i, keyOf_s, gAddI_i, gSubI_i, index_s, idxKind_s, isDat_d, isDat_r, svB_d, svB_r, moB_lst, moB_dk, natAbs10, asL_l, asK_k, itL_l, liL_l, tdL_l, tdL_k, dsL_k, dsL_l, tyL_l, tyL_k, lstAt_r, dkAt_r, items_r, litems_r, toD_r, dkS_r, dkS_tup, dkS_lst, dkS_dk, dkS_str, tyS_r, v_ixRef, v_lenRef, v_cutRef, ditems_r, v_listRef, v_tupleRef, v_eqRef, v_neRef, v_addRR, v_addRL, v_addLR, finO_nx, finO_rt, finO_bk, finO_ct, isTy_int_NoneType, isTy_int_bool, isTy_int_int, isTy_int_str, isTy_int_tuple, isTy_int_list, isTy_int_dict, isTy_bool_NoneType, isTy_bool_bool, isTy_bool_int, isTy_bool_str, isTy_bool_tuple, isTy_bool_list, isTy_bool_dict, isTy_str_NoneType, isTy_str_bool, isTy_str_int, isTy_str_str, isTy_str_tuple, isTy_str_list, isTy_str_dict, isTy_tuple_NoneType, isTy_tuple_bool, isTy_tuple_int, isTy_tuple_str, isTy_tuple_tuple, isTy_tuple_list, isTy_tuple_dict, isTy_list_NoneType, isTy_list_bool, isTy_list_int, isTy_list_str, isTy_list_tuple, isTy_list_list, isTy_list_dict, isTy_dict_NoneType, isTy_dict_bool, isTy_dict_int, isTy_dict_str, isTy_dict_tuple, isTy_dict_list, isTy_dict_dict, eo_non, eo_bl, eo_int, eo_str, eo_tup, eo_lst, ev_nn, ev_ii, ev_bb, ev_ss, ev_tt, ev_ll, ea_nn, ea_nc, ea_cn, ea_cc, ea_mapd, ev_non_bl, ev_non_int, ev_non_str, ev_non_tup, ev_non_lst, ev_bl_non, ev_bl_str, ev_bl_tup, ev_bl_lst, ev_int_non, ev_int_str, ev_int_tup, ev_int_lst, ev_str_non, ev_str_bl, ev_str_int, ev_str_tup, ev_str_lst, ev_tup_non, ev_tup_bl, ev_tup_int, ev_tup_str, ev_tup_lst, ev_lst_non, ev_lst_bl, ev_lst_int, ev_lst_str, ev_lst_tup, wipeE_nil, wipeE_cons, cast_0, cast_1, cast_2, cast_3, cast_4, cast_5, cast_6, cast_7, cast_8, cast_9, cast_10, cast_11, cast_12, keysOf_nil, keysOf_cons, mergeS_nil, mergeS_cons, inR_s, sz_lt, sz_le, leq_nn, leq_nc, leq_cn, leq_cc, key_ss, key_ii, key_is, key_si, findK_nil, findK_cons, mapS_nil, mapS_cons, putS_nil, putS_cons, Option.bind_some, Option.map_some, Option.bind_none, Option.map_none, List.set_cons_zero, List.set_cons_succ, List.set_nil, List.getElem?_cons_zero, List.getElem?_cons_succ, List.length_cons, List.length_nil, List.nil_append, List.cons_append, List.map_cons, List.map_nil, if_true, if_false, Bool.false_eq_true, reduceIte, List.all_cons, List.all_nil, Bool.and_true, Bool.true_and, Bool.and_false, Bool.false_and, Bool.not_true, Bool.not_false, Bool.or_false, Bool.or_true, Bool.false_or, Bool.true_or, and_self, and_true, true_and, Int.toNat_natCast, decide_true, decide_false, List.take_zero, List.take_nil, List.take_succ_cons, List.drop_succ_cons, List.drop_zero, List.drop_nil, List.set_nil, List.replicate_succ, List.replicate_zero, List.foldl_cons, List.foldl_nil, Nat.reduceSub, Nat.reduceAdd, Nat.reduceLT, Nat.reduceLeDiff, Nat.reduceEqDiff, Nat.reduceMul, Int.reduceAdd, Int.reduceSub, Int.reduceMul, Int.reduceLT, Int.reduceLE, Int.reduceNeg, Int.reducePow, Int.reduceToNat, or_true, true_or, or_false, false_or, false_and, and_false, Nat.reducePow, not_true_eq_false, not_false_eq_true, Nat.add_zero, Nat.zero_add, Nat.sub_self, Nat.sub_zero, reduceCtorEq, Option.map_map, Int.reduceEq, Int.reduceNe, Int.reduceMod, Int.reduceDiv, List.append_nil, rngL_zero, at0, at1, at2]
    refine (c_pickL h3 [] (by simp)).mono ?_
    rintro p ⟨d, hd, w4, rfl, h4⟩
    have hd30 : eqOk 20 d = true := by
      simp only [List.mem_cons, List.not_mem_nil, or_false] at hd
      rcases hd with rfl | rfl | rfl | rfl | rfl | rfl | rfl | rfl | rfl | rfl | rfl <;> simp
    simp -implicitDefEqProofs only [run_bind, run_some, run_none, run_map, a_var, a_c, a_op, a_un, a_chain, tst_b, a_test, a_and, a_or, a_not, a_andV, a_orV, a_notV, a_if, a_nil, a_cons, a_tup, a_lst, a_new, a_fn, a_isi, a_call, asI_i, a_part, a_noPart, a_cut, a_app, a_ext, a_index, a_sub, a_ps0, a_ps1, a_disp, a_lc, a_tt, a_skip, andThen_nx, andThen_rt, andThen_bk, andThen_ct, a_seq, a_expr, a_ret, a_retN, a_brk, a_cnt, a_ifS, a_set, a_aug, a_asg, two_eq, a_par, a_put, a_daug, a_for, a_scoped, frzO_nx, frzO_bk, frzO_ct, frzO_rt, frzS_d, frzS_r, frzE_nil, frzE_none, frzE_some, a_gN, a_gsNil, a_gsCons, a_gTp, asStr_s, a_strI, asRng_i, a_rng1, asRng2_i, a_rng2, chkOf_d, a_seqI, a_cYes, items_tup, items_lst, litems_lst, ditems_tup, ditems_lst, toD_d, dataAll_nil, dataAll_cons, dataAll_mapd, asD_d, v_ii, v_addI, v_addS, v_addT, v_addL, v_neg, v_ltI, v_ltS, v_eq, v_ne, v_inS, v_notInS, v_ixS, v_ixR, v_ixT, v_ixL, v_cutS, v_cutT, v_cutL, v_lenS, v_lenR, v_lenT, v_lenL, v_abs, v_int1, v_listT, v_listL, v_tupleT, v_tupleL, v_isN, v_notN, isN_non, isN_r, isN_bl, isN_int, isN_str, isN_tup, isN_lst, ty_non, ty_bl, ty_int, ty_str, ty_tup, ty_lst, keyOf_i, keyOf_s, gAddI_i, gSubI_i, index_s, idxKind_s, isDat_d, isDat_r, svB_d, svB_r, moB_lst, moB_dk, natAbs10, asL_l, asK_k, itL_l, liL_l, tdL_l, tdL_k, dsL_k, dsL_l, tyL_l, tyL_k, lstAt_r, dkAt_r, items_r, litems_r, toD_r, dkS_r, dkS_tup, dkS_lst, dkS_dk, dkS_str, tyS_r, v_ixRef, v_lenRef, v_cutRef, ditems_r, v_listRef, v_tupleRef, v_eqRef, v_neRef, v_addRR, v_addRL, v_addLR, finO_nx, finO_rt, finO_bk, finO_ct, isTy_int_NoneType, isTy_int_bool, isTy_int_int, isTy_int_str, isTy_int_tuple, isTy_int_list, isTy_int_dict, isTy_bool_NoneType, isTy_bool_bool, isTy_bool_int, isTy_bool_str, isTy_bool_tuple, isTy_bool_list, isTy_bool_dict, isTy_str_NoneType, isTy_str_bool, isTy_str_int, isTy_str_str, isTy_str_tuple, isTy_str_list, isTy_str_dict, isTy_tuple_NoneType, isTy_tuple_bool, isTy_tuple_int, isTy_tuple_str, isTy_tuple_tuple, isTy_tuple_list, isTy_tuple_dict, isTy_list_NoneType, isTy_list_bool, isTy_list_int, isTy_list_str, isTy_list_tuple, isTy_list_list, isTy_list_dict, isTy_dict_NoneType, isTy_dict_bool, isTy_dict_int, isTy_dict_str, isTy_dict_tuple, isTy_dict_list, isTy_dict_dict, eo_non, eo_bl, eo_int, eo_str, eo_tup, eo_lst, ev_nn, ev_ii, ev_bb, ev_ss, ev_tt, ev_ll, ea_nn, ea_nc, ea_cn, ea_cc, ea_mapd, ev_non_bl, ev_non_int, ev_non_str, ev_non_tup, ev_non_lst, ev_bl_non, ev_bl_str, ev_bl_tup, ev_bl_lst, ev_int_non, ev_int_str, ev_int_tup, ev_int_lst, ev_str_non, ev_str_bl, ev_str_int, ev_str_tup, ev_str_lst, ev_tup_non, ev_tup_bl, ev_tup_int, ev_tup_str, ev_tup_lst, ev_lst_non, ev_lst_bl, ev_lst_int, ev_lst_str, ev_lst_tup, wipeE_nil, wipeE_cons, cast_0, cast_1, cast_2, cast_3, cast_4, cast_5, cast_6, cast_7, cast_8, cast_9, cast_10, cast_11, cast_12, keysOf_nil, keysOf_cons, mergeS_nil, mergeS_cons, inR_s, sz_lt, sz_le, leq_nn, leq_nc, leq_cn, leq_cc, key_ss, key_ii, key_is, key_si, findK_nil, findK_cons, mapS_nil, mapS_cons, putS_nil, putS_cons, Option.bind_some, Option.map_some, Option.bind_none, Option.map_none, List.set_cons_zero, List.set_cons_succ, List.set_nil, List.getElem?_cons_zero, List.getElem?_cons_succ, List.length_cons, List.length_nil, List.nil_append, List.cons_append, List.map_cons, List.map_nil, if_true, if_false, Bool.false_eq_true, reduceIte, List.all_cons, List.all_nil, Bool.and_true, Bool.true_and, Bool.and_false, Bool.false_and, Bool.not_true, Bool.not_false, Bool.or_false, Bool.or_true, Bool.false_or, Bool.true_or, and_self, and_true, true_and, Int.toNat_natCast, decide_true, decide_false, List.take_zero, List.take_nil, List.take_succ_cons, List.drop_succ_cons, List.drop_zero, List.drop_nil, List.set_nil, List.replicate_succ, List.replicate_zero, List.foldl_cons, List.foldl_nil, Nat.reduceSub, Nat.reduceAdd, Nat.reduceLT, Nat.reduceLeDiff, Nat.reduceEqDiff, Nat.reduceMul, Int.reduceAdd, Int.reduceSub, Int.reduceMul, Int.reduceLT, Int.reduceLE, Int.reduceNeg, Int.reducePow, Int.reduceToNat, or_true, true_or, or_false, false_or, false_and, and_false, Nat.reducePow, not_true_eq_false, not_false_eq_true, Nat.add_zero, Nat.zero_add, Nat.sub_self, Nat.sub_zero, reduceCtorEq, Option.map_map, Int.reduceEq, Int.reduceNe, Int.reduceMod, Int.reduceDiv, List.append_nil, rngL_zero, at0, at1, at2, atI_mapn hk]
    refine (c_pickL h4 [] (by simp)).mono ?_
    rintro p ⟨e, he, w5, rfl, h5⟩
    have he30 : ∃ es : List D, e = .tup es ∧ es.length ≤ 2 ∧ es.all (eqOk 20) = true := by
      simp only [List.mem_cons, List.not_mem_nil, or_false] at he
      rcases he with rfl | rfl | rfl
      · exact ⟨_, rfl, by simp, by simp [hd30]⟩
      · exact ⟨_, rfl, by simp, by simp⟩
      · exact ⟨_, rfl, by simp, by simp⟩
    obtain ⟨es, rfl, hes, heo⟩ := he30
    have d1 := cutL_length (b[i].map pD) none (some (k : Int))
    have d2 := cutL_length (b[i].map pD) (some ((k : Int) + 1)) none
    rw [List.length_map] at d1 d2
    have z1 : (cutL (b.map rD) none (some (i : Int))).length + 1 ≤ 100000 := by omega
    have z2 : (cutL (b[i].map pD) none (some (k : Int))).length + es.length ≤ 100000 := by omega
    have z3 : (cutL (b[i].map pD) none (some (k : Int)) ++ es).length + (cutL (b[i].map pD) (some ((k : Int) + 1)) none).length ≤ 100000 := by rw [List.length_append]; omega
    have z4 : ∀ x : D, (cutL (b.map rD) none (some (i : Int)) ++ [x]).length + (cutL (b.map rD) (some ((i : Int) + 1)) none).length ≤ 100000 := by intro x; simp; omega
    have hw := wM_mo h5
    simp -implicitDefEqProofs only [run_bind, run_some, run_none, run_map, a_var, a_c, a_op, a_un, a_chain, tst_b, a_test, a_and, a_or, a_not, a_andV, a_orV, a_notV, a_if, a_nil, a_cons, a_tup, a_lst, a_new, a_fn, a_isi, a_call, asI_i, a_part, a_noPart, a_cut, a_app, a_ext, a_index, a_sub, a_ps0, a_ps1, a_disp, a_lc, a_tt, a_skip, andThen_nx, andThen_rt, andThen_bk, andThen_ct, a_seq, a_expr, a_ret, a_retN, a_brk, a_cnt, a_ifS, a_set, a_aug, a_asg, two_eq, a_par, a_put, a_daug, a_for, a_scoped, frzO_nx, frzO_bk, frzO_ct, frzO_rt, frzS_d, frzS_r, frzE_nil, frzE_none, frzE_some, a_gN, a_gsNil, a_gsCons, a_gTp, asStr_s, a_strI, asRng_i, a_rng1, asRng2_i, a_rng2, chkOf_d, a_seqI, a_cYes, items_tup, items_lst, litems_lst, ditems_tup, ditems_lst, toD_d, dataAll_nil, dataAll_cons, dataAll_mapd, asD_d, v_ii, v_addI, v_addS, v_addT, v_addL, v_neg, v_ltI, v_ltS, v_eq, v_ne, v_inS, v_notInS, v_ixS, v_ixR, v_ixT, v_ixL, v_cutS, v_cutT, v_cutL, v_lenS, v_lenR, v_lenT, v_lenL, v_abs, v_int1, v_listT, v_listL, v_tupleT, v_tupleL, v_isN, v_notN, isN_non, isN_r, isN_bl, isN_int, isN_str, isN_tup, isN_lst, ty_non, ty_bl, ty_int, ty_str, ty_tup, ty_lst, keyOf_i, keyOf_s, gAddI_i, gSubI_i, index_s, idxKind_s, isDat_d, isDat_r, svB_d, svB_r, moB_lst, moB_dk, natAbs10, asL_l, asK_k, itL_l, liL_l, tdL_l, tdL_k, dsL_k, dsL_l, tyL_l, tyL_k, lstAt_r, dkAt_r, items_r, litems_r, toD_r, dkS_r, dkS_tup, dkS_lst, dkS_dk, dkS_str, tyS_r, v_ixRef, v_lenRef, v_cutRef, ditems_r, v_listRef, v_tupleRef, v_eqRef, v_neRef, v_addRR, v_addRL, v_addLR, finO_nx, finO_rt, finO_bk, finO_ct, isTy_int_NoneType, isTy_int_bool, isTy_int_int, isTy_int_str, isTy_int_tuple, isTy_int_list, isTy_int_dict, isTy_bool_NoneType, isTy_bool_bool, isTy_bool_int, isTy_bool_str, isTy_bool_tuple, isTy_bool_list, isTy_bool_dict, isTy_str_NoneType, isTy_str_bool, isTy_str_int, isTy_str_str, isTy_str_tuple, isTy_str_list, isTy_str_dict, isTy_tuple_NoneType, isTy_tuple_bool, isTy_tuple_int, isTy_tuple_str, isTy_tuple_tuple, isTy_tuple_list, isTy_tuple_dict, isTy_list_NoneType, isTy_list_bool, isTy_list_int, isTy_list_str, isTy_list_tuple, isTy_list_list, isTy_list_dict, isTy_dict_NoneType, isTy_dict_bool, isTy_dict_int, isTy_dict_str, isTy_dict_tuple, isTy_dict_list, isTy_dict_dict, eo_non, eo_bl, eo_int, eo_str, eo_tup, eo_lst, ev_nn, ev_ii, ev_bb, ev_ss, ev_tt, ev_ll, ea_nn, ea_nc, ea_cn, ea_cc, ea_mapd, ev_non_bl, ev_non_int, ev_non_str, ev_non_tup, ev_non_lst, ev_bl_non, ev_bl_str, ev_bl_tup, ev_bl_lst, ev_int_non, ev_int_str, ev_int_tup, ev_int_lst, ev_str_non, ev_str_bl, ev_str_int, ev_str_tup, ev_str_lst, ev_tup_non, ev_tup_bl, ev_tup_int, ev_tup_str, ev_tup_lst, ev_lst_non, ev_lst_bl, ev_lst_int, ev_lst_str, ev_lst_tup, wipeE_nil, wipeE_cons, cast_0, cast_1, cast_2, cast_3, cast_4, cast_5, cast_6, cast_7, cast_8, cast_9, cast_10, cast_11, cast_12, keysOf_nil, keysOf_cons, mergeS_nil, mergeS_cons, inR_s, sz_lt, sz_le, leq_nn, leq_nc, leq_cn, leq_cc, key_ss, key_ii, key_is, key_si, findK_nil, findK_cons, mapS_nil, mapS_cons, putS_nil, putS_cons, Option.bind_some, Option.map_some, Option.bind_none, Option.map_none, List.set_cons_zero, List.set_cons_succ, List.set_nil, List.getElem?_cons_zero, List.getElem?_cons_succ, List.length_cons, List.length_nil, List.nil_append, List.cons_append, List.map_cons, List.map_nil, if_true, if_false, Bool.false_eq_true, reduceIte, List.all_cons, List.all_nil, Bool.and_true, Bool.true_and, Bool.and_false, Bool.false_and, Bool.not_true, Bool.not_false, Bool.or_false, Bool.or_true, Bool.false_or, Bool.true_or, and_self, and_true, true_and, Int.toNat_natCast, decide_true, decide_false, List.take_zero, List.take_nil, List.take_succ_cons, List.drop_succ_cons, List.drop_zero, List.drop_nil, List.set_nil, List.replicate_succ, List.replicate_zero, List.foldl_cons, List.foldl_nil, Nat.reduceSub, Nat.reduceAdd, Nat.reduceLT, Nat.reduceLeDiff, Nat.reduceEqDiff, Nat.reduceMul, Int.reduceAdd, Int.reduceSub, Int.reduceMul, Int.reduceLT, Int.reduceLE, Int.reduceNeg, Int.reducePow, Int.reduceToNat, or_true, true_or, or_false, false_or, false_and, and_false, Nat.reducePow, not_true_eq_false, not_false_eq_true, Nat.add_zero, Nat.zero_add, Nat.sub_self, Nat.sub_zero, reduceCtorEq, Option.map_map, Int.reduceEq, Int.reduceNe, Int.reduceMod, Int.reduceDiv, List.append_nil, rngL_zero, at0, at1, at2, sz_le z1, sz_le z2, sz_le z3, sz_le (z4 _), hw]
    refine ⟨_, w5, rfl, h5, ?_⟩
    have q1 := all_cut (lo := none) (hi := some (i : Int)) (ok_rows 27 b)
    have q2 := all_cut (lo := some ((i : Int) + 1)) (hi := none) (ok_rows 27 b)
    have q3 := all_cut (lo := none) (hi := some (k : Int)) (ok_ps 27 b[i])
    have q4 := all_cut (lo := some ((k : Int) + 1)) (hi := none) (ok_ps 27 b[i])
    have q5 : es.all (eqOk 28) = true := by
      rw [List.all_eq_true] at heo ⊢
      exact fun x hx => eqOk_le (heo x hx) (by omega)
    simp only [eo_tup, List.all_append, List.all_cons, List.all_nil, q1, q2, q3, q4, q5, Bool.and_self, Bool.and_true, Bool.true_and]
end K44

set_option maxHeartbeats 2000000
/-! K44M: the law. -/
namespace K44
open PySem PySem.Spec L2 DL LX
def LawI (ns : List Int) (δ : DL.Env) (st : Store) : Prop := ∃ (w : MO) (o2 o3 o4 o5 o6 o7 o8 o9 : Option SV), δ = [some (.d (.scr ns)), some (.r 0), o2, o3, o4, o5, o6, o7, o8, o9, none] ∧ st = [w] ∧ wM w ∧ (okO o2 ∧ okO o3 ∧ okO o4 ∧ okO o5 ∧ okO o6 ∧ okO o7 ∧ okO o8 ∧ okO o9)
theorem p_law (ns : List Int) (hn : ns.length ≤ 63) : F_law [.d (.scr ns)] [] = some (.d (.bl true), []) := by
  obtain ⟨ds, e0⟩ := sp_draws ns 500 hn (by omega) (by omega)
  have e0 := callM_pure [] e0
  unfold F_law g_law
  rw [a_runF]
  apply Run.eq
  simp -implicitDefEqProofs only [run_bind, run_some, run_none, run_map, a_var, a_c, a_op, a_un, a_chain, tst_b, a_test, a_and, a_or, a_not, a_andV, a_orV, a_notV, a_if, a_nil, a_cons, a_tup, a_lst, a_new, a_fn, a_isi, a_call, asI_i, a_part, a_noPart, a_cut, a_app, a_ext, a_index, a_sub, a_ps0, a_ps1, a_disp, a_lc, a_tt, a_skip, andThen_nx, andThen_rt, andThen_bk, andThen_ct, a_seq, a_expr, a_ret, a_retN, a_brk, a_cnt, a_ifS, a_set, a_aug, a_asg, two_eq, a_par, a_put, a_daug, a_for, a_scoped, frzO_nx, frzO_bk, frzO_ct, frzO_rt, frzS_d, frzS_r, frzE_nil, frzE_none, frzE_some, a_gN, a_gsNil, a_gsCons, a_gTp, asStr_s, a_strI, asRng_i, a_rng1, asRng2_i, a_rng2, chkOf_d, a_seqI, a_cYes, items_tup, items_lst, litems_lst, ditems_tup, ditems_lst, toD_d, dataAll_nil, dataAll_cons, dataAll_mapd, asD_d, v_ii, v_addI, v_addS, v_addT, v_addL, v_neg, v_ltI, v_ltS, v_eq, v_ne, v_inS, v_notInS, v_ixS, v_ixR, v_ixT, v_ixL, v_cutS, v_cutT, v_cutL, v_lenS, v_lenR, v_lenT, v_lenL, v_abs, v_int1, v_listT, v_listL, v_tupleT, v_tupleL, v_isN, v_notN, isN_non, isN_r, isN_bl, isN_int, isN_str, isN_tup, isN_lst, ty_non, ty_bl, ty_int, ty_str, ty_tup, ty_lst, keyOf_i, keyOf_s, gAddI_i, gSubI_i, index_s, idxKind_s, isDat_d, isDat_r, svB_d, svB_r, moB_lst, moB_dk, natAbs10, asL_l, asK_k, itL_l, liL_l, tdL_l, tdL_k, dsL_k, dsL_l, tyL_l, tyL_k, lstAt_r, dkAt_r, items_r, litems_r, toD_r, dkS_r, dkS_tup, dkS_lst, dkS_dk, dkS_str, tyS_r, v_ixRef, v_lenRef, v_cutRef, ditems_r, v_listRef, v_tupleRef, v_eqRef, v_neRef, v_addRR, v_addRL, v_addLR, finO_nx, finO_rt, finO_bk, finO_ct, isTy_int_NoneType, isTy_int_bool, isTy_int_int, isTy_int_str, isTy_int_tuple, isTy_int_list, isTy_int_dict, isTy_bool_NoneType, isTy_bool_bool, isTy_bool_int, isTy_bool_str, isTy_bool_tuple, isTy_bool_list, isTy_bool_dict, isTy_str_NoneType, isTy_str_bool, isTy_str_int, isTy_str_str, isTy_str_tuple, isTy_str_list, isTy_str_dict, isTy_tuple_NoneType, isTy_tuple_bool, isTy_tuple_int, isTy_tuple_str, isTy_tuple_tuple, isTy_tuple_list, isTy_tuple_dict, isTy_list_NoneType, isTy_list_bool, isTy_list_int, isTy_list_str, isTy_list_tuple, isTy_list_list, isTy_list_dict, isTy_dict_NoneType, isTy_dict_bool, isTy_dict_int, isTy_dict_str, isTy_dict_tuple, isTy_dict_list, isTy_dict_dict, eo_non, eo_bl, eo_int, eo_str, eo_tup, eo_lst, ev_nn, ev_ii, ev_bb, ev_ss, ev_tt, ev_ll, ea_nn, ea_nc, ea_cn, ea_cc, ea_mapd, ev_non_bl, ev_non_int, ev_non_str, ev_non_tup, ev_non_lst, ev_bl_non, ev_bl_str, ev_bl_tup, ev_bl_lst, ev_int_non, ev_int_str, ev_int_tup, ev_int_lst, ev_str_non, ev_str_bl, ev_str_int, ev_str_tup, ev_str_lst, ev_tup_non, ev_tup_bl, ev_tup_int, ev_tup_str, ev_tup_lst, ev_lst_non, ev_lst_bl, ev_lst_int, ev_lst_str, ev_lst_tup, wipeE_nil, wipeE_cons, cast_0, cast_1, cast_2, cast_3, cast_4, cast_5, cast_6, cast_7, cast_8, cast_9, cast_10, cast_11, cast_12, keysOf_nil, keysOf_cons, mergeS_nil, mergeS_cons, inR_s, sz_lt, sz_le, leq_nn, leq_nc, leq_cn, leq_cc, key_ss, key_ii, key_is, key_si, findK_nil, findK_cons, mapS_nil, mapS_cons, putS_nil, putS_cons, Option.bind_some, Option.map_some, Option.bind_none, Option.map_none, List.set_cons_zero, List.set_cons_succ, List.set_nil, List.getElem?_cons_zero, List.getElem?_cons_succ, List.length_cons, List.length_nil, List.nil_append, List.cons_append, List.map_cons, List.map_nil, if_true, if_false, Bool.false_eq_true, reduceIte, List.all_cons, List.all_nil, Bool.and_true, Bool.true_and, Bool.and_false, Bool.false_and, Bool.not_true, Bool.not_false, Bool.or_false, Bool.or_true, Bool.false_or, Bool.true_or, and_self, and_true, true_and, Int.toNat_natCast, decide_true, decide_false, List.take_zero, List.take_nil, List.take_succ_cons, List.drop_succ_cons, List.drop_zero, List.drop_nil, List.set_nil, List.replicate_succ, List.replicate_zero, List.foldl_cons, List.foldl_nil, Nat.reduceSub, Nat.reduceAdd, Nat.reduceLT, Nat.reduceLeDiff, Nat.reduceEqDiff, Nat.reduceMul, Int.reduceAdd, Int.reduceSub, Int.reduceMul, Int.reduceLT, Int.reduceLE, Int.reduceNeg, Int.reducePow, Int.reduceToNat, or_true, true_or, or_false, false_or, false_and, and_false, Nat.reducePow, not_true_eq_false, not_false_eq_true, Nat.add_zero, Nat.zero_add, Nat.sub_self, Nat.sub_zero, reduceCtorEq, Option.map_map, Int.reduceEq, Int.reduceNe, Int.reduceMod, Int.reduceDiv, List.append_nil, rngL_zero, at0, at1, at2, e0]
  refine (forL_wp _ (fun i δ st => LawI ns δ st) (R := fun p => p.1 = .nx ∧ LawI ns p.2.1 p.2.2) ⟨_, none, none, none, none, none, none, none, none, rfl, rfl, wM_new ds, by simp [okO_none]⟩ ?_ (fun δ st h => ⟨rfl, h⟩)).mono ?_
  · rintro i s δ st hs ⟨w, o2, o3, o4, o5, o6, o7, o8, o9, rfl, rfl, hw, k2, k3, k4, k5, k6, k7, k8, k9⟩
    obtain ⟨hi, rfl⟩ := rngL_get hs
    simp -implicitDefEqProofs only [run_bind, run_some, run_none, run_map, a_var, a_c, a_op, a_un, a_chain, tst_b, a_test, a_and, a_or, a_not, a_andV, a_orV, a_notV, a_if, a_nil, a_cons, a_tup, a_lst, a_new, a_fn, a_isi, a_call, asI_i, a_part, a_noPart, a_cut, a_app, a_ext, a_index, a_sub, a_ps0, a_ps1, a_disp, a_lc, a_tt, a_skip, andThen_nx, andThen_rt, andThen_bk, andThen_ct, a_seq, a_expr, a_ret, a_retN, a_brk, a_cnt, a_ifS, a_set, a_aug, a_asg, two_eq, a_par, a_put, a_daug, a_for, a_scoped, frzO_nx, frzO_bk, frzO_ct, frzO_rt, frzS_d, frzS_r, frzE_nil, frzE_none, frzE_some, a_gN, a_gsNil, a_gsCons, a_gTp, asStr_s, a_strI, asRng_i, a_rng1, asRng2_i, a_rng2, chkOf_d, a_seqI, a_cYes, items_tup, items_lst, litems_lst, ditems_tup, ditems_lst, toD_d, dataAll_nil, dataAll_cons, dataAll_mapd, asD_d, v_ii, v_addI, v_addS, v_addT, v_addL, v_neg, v_ltI, v_ltS, v_eq, v_ne, v_inS, v_notInS, v_ixS, v_ixR, v_ixT, v_ixL, v_cutS, v_cutT, v_cutL, v_lenS, v_lenR, v_lenT, v_lenL, v_abs, v_int1, v_listT, v_listL, v_tupleT, v_tupleL, v_isN, v_notN, isN_non, isN_r, isN_bl, isN_int, isN_str, isN_tup, isN_lst, ty_non, ty_bl, ty_int, ty_str, ty_tup, ty_lst, keyOf_i, keyOf_s, gAddI_i, gSubI_i, index_s, idxKind_s, isDat_d, isDat_r, svB_d, svB_r, moB_lst, moB_dk, natAbs10, asL_l, asK_k, itL_l, liL_l, tdL_l, tdL_k, dsL_k, dsL_l, tyL_l, tyL_k, lstAt_r, dkAt_r, items_r, litems_r, toD_r, dkS_r, dkS_tup, dkS_lst, dkS_dk, dkS_str, tyS_r, v_ixRef, v_lenRef, v_cutRef, ditems_r, v_listRef, v_tupleRef, v_eqRef, v_neRef, v_addRR, v_addRL, v_addLR, finO_nx, finO_rt, finO_bk, finO_ct, isTy_int_NoneType, isTy_int_bool, isTy_int_int, isTy_int_str, isTy_int_tuple, isTy_int_list, isTy_int_dict, isTy_bool_NoneType, isTy_bool_bool, isTy_bool_int, isTy_bool_str, isTy_bool_tuple, isTy_bool_list, isTy_bool_dict, isTy_str_NoneType, isTy_str_bool, isTy_str_int, isTy_str_str, isTy_str_tuple, isTy_str_list, isTy_str_dict, isTy_tuple_NoneType, isTy_tuple_bool, isTy_tuple_int, isTy_tuple_str, isTy_tuple_tuple, isTy_tuple_list, isTy_tuple_dict, isTy_list_NoneType, isTy_list_bool, isTy_list_int, isTy_list_str, isTy_list_tuple, isTy_list_list, isTy_list_dict, isTy_dict_NoneType, isTy_dict_bool, isTy_dict_int, isTy_dict_str, isTy_dict_tuple, isTy_dict_list, isTy_dict_dict, eo_non, eo_bl, eo_int, eo_str, eo_tup, eo_lst, ev_nn, ev_ii, ev_bb, ev_ss, ev_tt, ev_ll, ea_nn, ea_nc, ea_cn, ea_cc, ea_mapd, ev_non_bl, ev_non_int, ev_non_str, ev_non_tup, ev_non_lst, ev_bl_non, ev_bl_str, ev_bl_tup, ev_bl_lst, ev_int_non, ev_int_str, ev_int_tup, ev_int_lst, ev_str_non, ev_str_bl, ev_str_int, ev_str_tup, ev_str_lst, ev_tup_non, ev_tup_bl, ev_tup_int, ev_tup_str, ev_tup_lst, ev_lst_non, ev_lst_bl, ev_lst_int, ev_lst_str, ev_lst_tup, wipeE_nil, wipeE_cons, cast_0, cast_1, cast_2, cast_3, cast_4, cast_5, cast_6, cast_7, cast_8, cast_9, cast_10, cast_11, cast_12, keysOf_nil, keysOf_cons, mergeS_nil, mergeS_cons, inR_s, sz_lt, sz_le, leq_nn, leq_nc, leq_cn, leq_cc, key_ss, key_ii, key_is, key_si, findK_nil, findK_cons, mapS_nil, mapS_cons, putS_nil, putS_cons, Option.bind_some, Option.map_some, Option.bind_none, Option.map_none, List.set_cons_zero, List.set_cons_succ, List.set_nil, List.getElem?_cons_zero, List.getElem?_cons_succ, List.length_cons, List.length_nil, List.nil_append, List.cons_append, List.map_cons, List.map_nil, if_true, if_false, Bool.false_eq_true, reduceIte, List.all_cons, List.all_nil, Bool.and_true, Bool.true_and, Bool.and_false, Bool.false_and, Bool.not_true, Bool.not_false, Bool.or_false, Bool.or_true, Bool.false_or, Bool.true_or, and_self, and_true, true_and, Int.toNat_natCast, decide_true, decide_false, List.take_zero, List.take_nil, List.take_succ_cons, List.drop_succ_cons, List.drop_zero, List.drop_nil, List.set_nil, List.replicate_succ, List.replicate_zero, List.foldl_cons, List.foldl_nil, Nat.reduceSub, Nat.reduceAdd, Nat.reduceLT, Nat.reduceLeDiff, Nat.reduceEqDiff, Nat.reduceMul, Int.reduceAdd, Int.reduceSub, Int.reduceMul, Int.reduceLT, Int.reduceLE, Int.reduceNeg, Int.reducePow, Int.reduceToNat, or_true, true_or, or_false, false_or, false_and, and_false, Nat.reducePow, not_true_eq_false, not_false_eq_true, Nat.add_zero, Nat.zero_add, Nat.sub_self, Nat.sub_zero, reduceCtorEq, Option.map_map, Int.reduceEq, Int.reduceNe, Int.reduceMod, Int.reduceDiv, List.append_nil, rngL_zero, at0, at1, at2]
    refine (c_pickL hw [] (by simp)).mono ?_
    rintro p ⟨d, hd, w1, rfl, h1⟩
    have hd2 : ∃ o : List Nat, d = .str o ∧ 0 < o.length ∧ o.length ≤ 3 ∧ o.Nodup := by
      simp only [List.mem_cons, List.not_mem_nil, or_false] at hd
      rcases hd with rfl | rfl | rfl | rfl <;> exact ⟨_, rfl, by decide, by decide, by decide⟩
    obtain ⟨ord, rfl, ho0, ho3, hod⟩ := hd2
    have hone : ord ≠ [] := fun e => by rw [e] at ho0; simp at ho0
    simp -implicitDefEqProofs only [run_bind, run_some, run_none, run_map, a_var, a_c, a_op, a_un, a_chain, tst_b, a_test, a_and, a_or, a_not, a_andV, a_orV, a_notV, a_if, a_nil, a_cons, a_tup, a_lst, a_new, a_fn, a_isi, a_call, asI_i, a_part, a_noPart, a_cut, a_app, a_ext, a_index, a_sub, a_ps0, a_ps1, a_disp, a_lc, a_tt, a_skip, andThen_nx, andThen_rt, andThen_bk, andThen_ct, a_seq, a_expr, a_ret, a_retN, a_brk, a_cnt, a_ifS, a_set, a_aug, a_asg, two_eq, a_par, a_put, a_daug, a_for, a_scoped, frzO_nx, frzO_bk, frzO_ct, frzO_rt, frzS_d, frzS_r, frzE_nil, frzE_none, frzE_some, a_gN, a_gsNil, a_gsCons, a_gTp, asStr_s, a_strI, asRng_i, a_rng1, asRng2_i, a_rng2, chkOf_d, a_seqI, a_cYes, items_tup, items_lst, litems_lst, ditems_tup, ditems_lst, toD_d, dataAll_nil, dataAll_cons, dataAll_mapd, asD_d, v_ii, v_addI, v_addS, v_addT, v_addL, v_neg, v_ltI, v_ltS, v_eq, v_ne, v_inS, v_notInS, v_ixS, v_ixR, v_ixT, v_ixL, v_cutS, v_cutT, v_cutL, v_lenS, v_lenR, v_lenT, v_lenL, v_abs, v_int1, v_listT, v_listL, v_tupleT, v_tupleL, v_isN, v_notN, isN_non, isN_r, isN_bl, isN_int, isN_str, isN_tup, isN_lst, ty_non, ty_bl, ty_int, ty_str, ty_tup, ty_lst, keyOf_i, keyOf_s, gAddI_i, gSubI_i, index_s, idxKind_s, isDat_d, isDat_r, svB_d, svB_r, moB_lst, moB_dk, natAbs10, asL_l, asK_k, itL_l, liL_l, tdL_l, tdL_k, dsL_k, dsL_l, tyL_l, tyL_k, lstAt_r, dkAt_r, items_r, litems_r, toD_r, dkS_r, dkS_tup, dkS_lst, dkS_dk, dkS_str, tyS_r, v_ixRef, v_lenRef, v_cutRef, ditems_r, v_listRef, v_tupleRef, v_eqRef, v_neRef, v_addRR, v_addRL, v_addLR, finO_nx, finO_rt, finO_bk, finO_ct, isTy_int_NoneType, isTy_int_bool, isTy_int_int, isTy_int_str, isTy_int_tuple, isTy_int_list, isTy_int_dict, isTy_bool_NoneType, isTy_bool_bool, isTy_bool_int, isTy_bool_str, isTy_bool_tuple, isTy_bool_list, isTy_bool_dict, isTy_str_NoneType, isTy_str_bool, isTy_str_int, isTy_str_str, isTy_str_tuple, isTy_str_list, isTy_str_dict, isTy_tuple_NoneType, isTy_tuple_bool, isTy_tuple_int, isTy_tuple_str, isTy_tuple_tuple, isTy_tuple_list, isTy_tuple_dict, isTy_list_NoneType, isTy_list_bool, isTy_list_int, isTy_list_str, isTy_list_tuple, isTy_list_list, isTy_list_dict, isTy_dict_NoneType, isTy_dict_bool, isTy_dict_int, isTy_dict_str, isTy_dict_tuple, isTy_dict_list, isTy_dict_dict, eo_non, eo_bl, eo_int, eo_str, eo_tup, eo_lst, ev_nn, ev_ii, ev_bb, ev_ss, ev_tt, ev_ll, ea_nn, ea_nc, ea_cn, ea_cc, ea_mapd, ev_non_bl, ev_non_int, ev_non_str, ev_non_tup, ev_non_lst, ev_bl_non, ev_bl_str, ev_bl_tup, ev_bl_lst, ev_int_non, ev_int_str, ev_int_tup, ev_int_lst, ev_str_non, ev_str_bl, ev_str_int, ev_str_tup, ev_str_lst, ev_tup_non, ev_tup_bl, ev_tup_int, ev_tup_str, ev_tup_lst, ev_lst_non, ev_lst_bl, ev_lst_int, ev_lst_str, ev_lst_tup, wipeE_nil, wipeE_cons, cast_0, cast_1, cast_2, cast_3, cast_4, cast_5, cast_6, cast_7, cast_8, cast_9, cast_10, cast_11, cast_12, keysOf_nil, keysOf_cons, mergeS_nil, mergeS_cons, inR_s, sz_lt, sz_le, leq_nn, leq_nc, leq_cn, leq_cc, key_ss, key_ii, key_is, key_si, findK_nil, findK_cons, mapS_nil, mapS_cons, putS_nil, putS_cons, Option.bind_some, Option.map_some, Option.bind_none, Option.map_none, List.set_cons_zero, List.set_cons_succ, List.set_nil, List.getElem?_cons_zero, List.getElem?_cons_succ, List.length_cons, List.length_nil, List.nil_append, List.cons_append, List.map_cons, List.map_nil, if_true, if_false, Bool.false_eq_true, reduceIte, List.all_cons, List.all_nil, Bool.and_true, Bool.true_and, Bool.and_false, Bool.false_and, Bool.not_true, Bool.not_false, Bool.or_false, Bool.or_true, Bool.false_or, Bool.true_or, and_self, and_true, true_and, Int.toNat_natCast, decide_true, decide_false, List.take_zero, List.take_nil, List.take_succ_cons, List.drop_succ_cons, List.drop_zero, List.drop_nil, List.set_nil, List.replicate_succ, List.replicate_zero, List.foldl_cons, List.foldl_nil, Nat.reduceSub, Nat.reduceAdd, Nat.reduceLT, Nat.reduceLeDiff, Nat.reduceEqDiff, Nat.reduceMul, Int.reduceAdd, Int.reduceSub, Int.reduceMul, Int.reduceLT, Int.reduceLE, Int.reduceNeg, Int.reducePow, Int.reduceToNat, or_true, true_or, or_false, false_or, false_and, and_false, Nat.reducePow, not_true_eq_false, not_false_eq_true, Nat.add_zero, Nat.zero_add, Nat.sub_self, Nat.sub_zero, reduceCtorEq, Option.map_map, Int.reduceEq, Int.reduceNe, Int.reduceMod, Int.reduceDiv, List.append_nil, rngL_zero, at0, at1, at2]
    refine (c_w h1 [] (as := [.d (.str ord), .d (.int 4)]) rfl (Q := fun v => ∃ b : Bx, v = bD b ∧ okB b ord.length) ((p_box h1 (by omega)).mono ?_)).mono ?_
    · rintro p ⟨b, w', rfl, h2, hb⟩
      exact ⟨_, w', rfl, h2, b, rfl, hb⟩
    rintro p ⟨v, w2, rfl, h2, b, rfl, hb⟩
    have e1 := callM_pure [w2] (p_step hb (by omega))
    simp -implicitDefEqProofs only [run_bind, run_some, run_none, run_map, a_var, a_c, a_op, a_un, a_chain, tst_b, a_test, a_and, a_or, a_not, a_andV, a_orV, a_notV, a_if, a_nil, a_cons, a_tup, a_lst, a_new, a_fn, a_isi, a_call, asI_i, a_part, a_noPart, a_cut, a_app, a_ext, a_index, a_sub, a_ps0, a_ps1, a_disp, a_lc, a_tt, a_skip, andThen_nx, andThen_rt, andThen_bk, andThen_ct, a_seq, a_expr, a_ret, a_retN, a_brk, a_cnt, a_ifS, a_set, a_aug, a_asg, two_eq, a_par, a_put, a_daug, a_for, a_scoped, frzO_nx, frzO_bk, frzO_ct, frzO_rt, frzS_d, frzS_r, frzE_nil, frzE_none, frzE_some, a_gN, a_gsNil, a_gsCons, a_gTp, asStr_s, a_strI, asRng_i, a_rng1, asRng2_i, a_rng2, chkOf_d, a_seqI, a_cYes, items_tup, items_lst, litems_lst, ditems_tup, ditems_lst, toD_d, dataAll_nil, dataAll_cons, dataAll_mapd, asD_d, v_ii, v_addI, v_addS, v_addT, v_addL, v_neg, v_ltI, v_ltS, v_eq, v_ne, v_inS, v_notInS, v_ixS, v_ixR, v_ixT, v_ixL, v_cutS, v_cutT, v_cutL, v_lenS, v_lenR, v_lenT, v_lenL, v_abs, v_int1, v_listT, v_listL, v_tupleT, v_tupleL, v_isN, v_notN, isN_non, isN_r, isN_bl, isN_int, isN_str, isN_tup, isN_lst, ty_non, ty_bl, ty_int, ty_str, ty_tup, ty_lst, keyOf_i, keyOf_s, gAddI_i, gSubI_i, index_s, idxKind_s, isDat_d, isDat_r, svB_d, svB_r, moB_lst, moB_dk, natAbs10, asL_l, asK_k, itL_l, liL_l, tdL_l, tdL_k, dsL_k, dsL_l, tyL_l, tyL_k, lstAt_r, dkAt_r, items_r, litems_r, toD_r, dkS_r, dkS_tup, dkS_lst, dkS_dk, dkS_str, tyS_r, v_ixRef, v_lenRef, v_cutRef, ditems_r, v_listRef, v_tupleRef, v_eqRef, v_neRef, v_addRR, v_addRL, v_addLR, finO_nx, finO_rt, finO_bk, finO_ct, isTy_int_NoneType, isTy_int_bool, isTy_int_int, isTy_int_str, isTy_int_tuple, isTy_int_list, isTy_int_dict, isTy_bool_NoneType, isTy_bool_bool, isTy_bool_int, isTy_bool_str, isTy_bool_tuple, isTy_bool_list, isTy_bool_dict, isTy_str_NoneType, isTy_str_bool, isTy_str_int, isTy_str_str, isTy_str_tuple, isTy_str_list, isTy_str_dict, isTy_tuple_NoneType, isTy_tuple_bool, isTy_tuple_int, isTy_tuple_str, isTy_tuple_tuple, isTy_tuple_list, isTy_tuple_dict, isTy_list_NoneType, isTy_list_bool, isTy_list_int, isTy_list_str, isTy_list_tuple, isTy_list_list, isTy_list_dict, isTy_dict_NoneType, isTy_dict_bool, isTy_dict_int, isTy_dict_str, isTy_dict_tuple, isTy_dict_list, isTy_dict_dict, eo_non, eo_bl, eo_int, eo_str, eo_tup, eo_lst, ev_nn, ev_ii, ev_bb, ev_ss, ev_tt, ev_ll, ea_nn, ea_nc, ea_cn, ea_cc, ea_mapd, ev_non_bl, ev_non_int, ev_non_str, ev_non_tup, ev_non_lst, ev_bl_non, ev_bl_str, ev_bl_tup, ev_bl_lst, ev_int_non, ev_int_str, ev_int_tup, ev_int_lst, ev_str_non, ev_str_bl, ev_str_int, ev_str_tup, ev_str_lst, ev_tup_non, ev_tup_bl, ev_tup_int, ev_tup_str, ev_tup_lst, ev_lst_non, ev_lst_bl, ev_lst_int, ev_lst_str, ev_lst_tup, wipeE_nil, wipeE_cons, cast_0, cast_1, cast_2, cast_3, cast_4, cast_5, cast_6, cast_7, cast_8, cast_9, cast_10, cast_11, cast_12, keysOf_nil, keysOf_cons, mergeS_nil, mergeS_cons, inR_s, sz_lt, sz_le, leq_nn, leq_nc, leq_cn, leq_cc, key_ss, key_ii, key_is, key_si, findK_nil, findK_cons, mapS_nil, mapS_cons, putS_nil, putS_cons, Option.bind_some, Option.map_some, Option.bind_none, Option.map_none, List.set_cons_zero, List.set_cons_succ, List.set_nil, List.getElem?_cons_zero, List.getElem?_cons_succ, List.length_cons, List.length_nil, List.nil_append, List.cons_append, List.map_cons, List.map_nil, if_true, if_false, Bool.false_eq_true, reduceIte, List.all_cons, List.all_nil, Bool.and_true, Bool.true_and, Bool.and_false, Bool.false_and, Bool.not_true, Bool.not_false, Bool.or_false, Bool.or_true, Bool.false_or, Bool.true_or, and_self, and_true, true_and, Int.toNat_natCast, decide_true, decide_false, List.take_zero, List.take_nil, List.take_succ_cons, List.drop_succ_cons, List.drop_zero, List.drop_nil, List.set_nil, List.replicate_succ, List.replicate_zero, List.foldl_cons, List.foldl_nil, Nat.reduceSub, Nat.reduceAdd, Nat.reduceLT, Nat.reduceLeDiff, Nat.reduceEqDiff, Nat.reduceMul, Int.reduceAdd, Int.reduceSub, Int.reduceMul, Int.reduceLT, Int.reduceLE, Int.reduceNeg, Int.reducePow, Int.reduceToNat, or_true, true_or, or_false, false_or, false_and, and_false, Nat.reducePow, not_true_eq_false, not_false_eq_true, Nat.add_zero, Nat.zero_add, Nat.sub_self, Nat.sub_zero, reduceCtorEq, Option.map_map, Int.reduceEq, Int.reduceNe, Int.reduceMod, Int.reduceDiv, List.append_nil, rngL_zero, at0, at1, at2, e1]
    refine (forL_wp _ (fun i' δ st => ∃ (w : MO) (o6 o7 o8 : Option SV), δ = [some (.d (.scr ns)), some (.r 0), some (.d (.int (0 + (i : Int)))), some (.d (.str ord)), some (.d (bD b)), some (.d (sD ord b)), o6, o7, o8, o9, none] ∧ st = [w] ∧ wM w ∧ okO o6 ∧ okO o7 ∧ okO o8)
      (R := fun p => ∃ (w : MO) (o6 o7 o8 : Option SV), p = (.nx, [some (.d (.scr ns)), some (.r 0), some (.d (.int (0 + (i : Int)))), some (.d (.str ord)), some (.d (bD b)), some (.d (sD ord b)), o6, o7, o8, o9, none], [w]) ∧ wM w ∧ okO o6 ∧ okO o7 ∧ okO o8)
      ⟨w2, o6, o7, o8, rfl, rfl, h2, k6, k7, k8⟩ ?_ ?_).mono ?_
    · rintro j s δ st hs ⟨w, o6, o7, o8, rfl, rfl, hw, k6, k7, k8⟩
      obtain ⟨hj, rfl⟩ := rngL_get hs
      simp -implicitDefEqProofs only [run_bind, run_some, run_none, run_map, a_var, a_c, a_op, a_un, a_chain, tst_b, a_test, a_and, a_or, a_not, a_andV, a_orV, a_notV, a_if, a_nil, a_cons, a_tup, a_lst, a_new, a_fn, a_isi, a_call, asI_i, a_part, a_noPart, a_cut, a_app, a_ext, a_index, a_sub, a_ps0, a_ps1, a_disp, a_lc, a_tt, a_skip, andThen_nx, andThen_rt, andThen_bk, andThen_ct, a_seq, a_expr, a_ret, a_retN, a_brk, a_cnt, a_ifS, a_set, a_aug, a_asg, two_eq, a_par, a_put, a_daug, a_for, a_scoped, frzO_nx, frzO_bk, frzO_ct, frzO_rt, frzS_d, frzS_r, frzE_nil, frzE_none, frzE_some, a_gN, a_gsNil, a_gsCons, a_gTp, asStr_s, a_strI, asRng_i, a_rng1, asRng2_i, a_rng2, chkOf_d, a_seqI, a_cYes, items_tup, items_lst, litems_lst, ditems_tup, ditems_lst, toD_d, dataAll_nil, dataAll_cons, dataAll_mapd, asD_d, v_ii, v_addI, v_addS, v_addT, v_addL, v_neg, v_ltI, v_ltS, v_eq, v_ne, v_inS, v_notInS, v_ixS, v_ixR, v_ixT, v_ixL, v_cutS, v_cutT, v_cutL, v_lenS, v_lenR, v_lenT, v_lenL, v_abs, v_int1, v_listT, v_listL, v_tupleT, v_tupleL, v_isN, v_notN, isN_non, isN_r, isN_bl, isN_int, isN_str, isN_tup, isN_lst, ty_non, ty_bl, ty_int, ty_str, ty_tup, ty_lst, keyOf_i, keyOf_s, gAddI_i, gSubI_i, index_s, idxKind_s, isDat_d, isDat_r, svB_d, svB_r, moB_lst, moB_dk, natAbs10, asL_l, asK_k, itL_l, liL_l, tdL_l, tdL_k, dsL_k, dsL_l, tyL_l, tyL_k, lstAt_r, dkAt_r, items_r, litems_r, toD_r, dkS_r, dkS_tup, dkS_lst, dkS_dk, dkS_str, tyS_r, v_ixRef, v_lenRef, v_cutRef, ditems_r, v_listRef, v_tupleRef, v_eqRef, v_neRef, v_addRR, v_addRL, v_addLR, finO_nx, finO_rt, finO_bk, finO_ct, isTy_int_NoneType, isTy_int_bool, isTy_int_int, isTy_int_str, isTy_int_tuple, isTy_int_list, isTy_int_dict, isTy_bool_NoneType, isTy_bool_bool, isTy_bool_int, isTy_bool_str, isTy_bool_tuple, isTy_bool_list, isTy_bool_dict, isTy_str_NoneType, isTy_str_bool, isTy_str_int, isTy_str_str, isTy_str_tuple, isTy_str_list, isTy_str_dict, isTy_tuple_NoneType, isTy_tuple_bool, isTy_tuple_int, isTy_tuple_str, isTy_tuple_tuple, isTy_tuple_list, isTy_tuple_dict, isTy_list_NoneType, isTy_list_bool, isTy_list_int, isTy_list_str, isTy_list_tuple, isTy_list_list, isTy_list_dict, isTy_dict_NoneType, isTy_dict_bool, isTy_dict_int, isTy_dict_str, isTy_dict_tuple, isTy_dict_list, isTy_dict_dict, eo_non, eo_bl, eo_int, eo_str, eo_tup, eo_lst, ev_nn, ev_ii, ev_bb, ev_ss, ev_tt, ev_ll, ea_nn, ea_nc, ea_cn, ea_cc, ea_mapd, ev_non_bl, ev_non_int, ev_non_str, ev_non_tup, ev_non_lst, ev_bl_non, ev_bl_str, ev_bl_tup, ev_bl_lst, ev_int_non, ev_int_str, ev_int_tup, ev_int_lst, ev_str_non, ev_str_bl, ev_str_int, ev_str_tup, ev_str_lst, ev_tup_non, ev_tup_bl, ev_tup_int, ev_tup_str, ev_tup_lst, ev_lst_non, ev_lst_bl, ev_lst_int, ev_lst_str, ev_lst_tup, wipeE_nil, wipeE_cons, cast_0, cast_1, cast_2, cast_3, cast_4, cast_5, cast_6, cast_7, cast_8, cast_9, cast_10, cast_11, cast_12, keysOf_nil, keysOf_cons, mergeS_nil, mergeS_cons, inR_s, sz_lt, sz_le, leq_nn, leq_nc, leq_cn, leq_cc, key_ss, key_ii, key_is, key_si, findK_nil, findK_cons, mapS_nil, mapS_cons, putS_nil, putS_cons, Option.bind_some, Option.map_some, Option.bind_none, Option.map_none, List.set_cons_zero, List.set_cons_succ, List.set_nil, List.getElem?_cons_zero, List.getElem?_cons_succ, List.length_cons, List.length_nil, List.nil_append, List.cons_append, List.map_cons, List.map_nil, if_true, if_false, Bool.false_eq_true, reduceIte, List.all_cons, List.all_nil, Bool.and_true, Bool.true_and, Bool.and_false, Bool.false_and, Bool.not_true, Bool.not_false, Bool.or_false, Bool.or_true, Bool.false_or, Bool.true_or, and_self, and_true, true_and, Int.toNat_natCast, decide_true, decide_false, List.take_zero, List.take_nil, List.take_succ_cons, List.drop_succ_cons, List.drop_zero, List.drop_nil, List.set_nil, List.replicate_succ, List.replicate_zero, List.foldl_cons, List.foldl_nil, Nat.reduceSub, Nat.reduceAdd, Nat.reduceLT, Nat.reduceLeDiff, Nat.reduceEqDiff, Nat.reduceMul, Int.reduceAdd, Int.reduceSub, Int.reduceMul, Int.reduceLT, Int.reduceLE, Int.reduceNeg, Int.reducePow, Int.reduceToNat, or_true, true_or, or_false, false_or, false_and, and_false, Nat.reducePow, not_true_eq_false, not_false_eq_true, Nat.add_zero, Nat.zero_add, Nat.sub_self, Nat.sub_zero, reduceCtorEq, Option.map_map, Int.reduceEq, Int.reduceNe, Int.reduceMod, Int.reduceDiv, List.append_nil, rngL_zero, at0, at1, at2]
      refine (c_next hw [] 7 (by omega)).mono ?_
      rintro p ⟨n, w3, rfl, n0, n7, h3⟩
      obtain ⟨n, rfl⟩ := Int.eq_ofNat_of_zero_le n0
      have hr : inR (n : Int) = true := inR_of (by omega)
      simp -implicitDefEqProofs only [run_bind, run_some, run_none, run_map, a_var, a_c, a_op, a_un, a_chain, tst_b, a_test, a_and, a_or, a_not, a_andV, a_orV, a_notV, a_if, a_nil, a_cons, a_tup, a_lst, a_new, a_fn, a_isi, a_call, asI_i, a_part, a_noPart, a_cut, a_app, a_ext, a_index, a_sub, a_ps0, a_ps1, a_disp, a_lc, a_tt, a_skip, andThen_nx, andThen_rt, andThen_bk, andThen_ct, a_seq, a_expr, a_ret, a_retN, a_brk, a_cnt, a_ifS, a_set, a_aug, a_asg, two_eq, a_par, a_put, a_daug, a_for, a_scoped, frzO_nx, frzO_bk, frzO_ct, frzO_rt, frzS_d, frzS_r, frzE_nil, frzE_none, frzE_some, a_gN, a_gsNil, a_gsCons, a_gTp, asStr_s, a_strI, asRng_i, a_rng1, asRng2_i, a_rng2, chkOf_d, a_seqI, a_cYes, items_tup, items_lst, litems_lst, ditems_tup, ditems_lst, toD_d, dataAll_nil, dataAll_cons, dataAll_mapd, asD_d, v_ii, v_addI, v_addS, v_addT, v_addL, v_neg, v_ltI, v_ltS, v_eq, v_ne, v_inS, v_notInS, v_ixS, v_ixR, v_ixT, v_ixL, v_cutS, v_cutT, v_cutL, v_lenS, v_lenR, v_lenT, v_lenL, v_abs, v_int1, v_listT, v_listL, v_tupleT, v_tupleL, v_isN, v_notN, isN_non, isN_r, isN_bl, isN_int, isN_str, isN_tup, isN_lst, ty_non, ty_bl, ty_int, ty_str, ty_tup, ty_lst, keyOf_i, keyOf_s, gAddI_i, gSubI_i, index_s, idxKind_s, isDat_d, isDat_r, svB_d, svB_r, moB_lst, moB_dk, natAbs10, asL_l, asK_k, itL_l, liL_l, tdL_l, tdL_k, dsL_k, dsL_l, tyL_l, tyL_k, lstAt_r, dkAt_r, items_r, litems_r, toD_r, dkS_r, dkS_tup, dkS_lst, dkS_dk, dkS_str, tyS_r, v_ixRef, v_lenRef, v_cutRef, ditems_r, v_listRef, v_tupleRef, v_eqRef, v_neRef, v_addRR, v_addRL, v_addLR, finO_nx, finO_rt, finO_bk, finO_ct, isTy_int_NoneType, isTy_int_bool, isTy_int_int, isTy_int_str, isTy_int_tuple, isTy_int_list, isTy_int_dict, isTy_bool_NoneType, isTy_bool_bool, isTy_bool_int, isTy_bool_str, isTy_bool_tuple, isTy_bool_list, isTy_bool_dict, isTy_str_NoneType, isTy_str_bool, isTy_str_int, isTy_str_str, isTy_str_tuple, isTy_str_list, isTy_str_dict, isTy_tuple_NoneType, isTy_tuple_bool, isTy_tuple_int, isTy_tuple_str, isTy_tuple_tuple, isTy_tuple_list, isTy_tuple_dict, isTy_list_NoneType, isTy_list_bool, isTy_list_int, isTy_list_str, isTy_list_tuple, isTy_list_list, isTy_list_dict, isTy_dict_NoneType, isTy_dict_bool, isTy_dict_int, isTy_dict_str, isTy_dict_tuple, isTy_dict_list, isTy_dict_dict, eo_non, eo_bl, eo_int, eo_str, eo_tup, eo_lst, ev_nn, ev_ii, ev_bb, ev_ss, ev_tt, ev_ll, ea_nn, ea_nc, ea_cn, ea_cc, ea_mapd, ev_non_bl, ev_non_int, ev_non_str, ev_non_tup, ev_non_lst, ev_bl_non, ev_bl_str, ev_bl_tup, ev_bl_lst, ev_int_non, ev_int_str, ev_int_tup, ev_int_lst, ev_str_non, ev_str_bl, ev_str_int, ev_str_tup, ev_str_lst, ev_tup_non, ev_tup_bl, ev_tup_int, ev_tup_str, ev_tup_lst, ev_lst_non, ev_lst_bl, ev_lst_int, ev_lst_str, ev_lst_tup, wipeE_nil, wipeE_cons, cast_0, cast_1, cast_2, cast_3, cast_4, cast_5, cast_6, cast_7, cast_8, cast_9, cast_10, cast_11, cast_12, keysOf_nil, keysOf_cons, mergeS_nil, mergeS_cons, inR_s, sz_lt, sz_le, leq_nn, leq_nc, leq_cn, leq_cc, key_ss, key_ii, key_is, key_si, findK_nil, findK_cons, mapS_nil, mapS_cons, putS_nil, putS_cons, Option.bind_some, Option.map_some, Option.bind_none, Option.map_none, List.set_cons_zero, List.set_cons_succ, List.set_nil, List.getElem?_cons_zero, List.getElem?_cons_succ, List.length_cons, List.length_nil, List.nil_append, List.cons_append, List.map_cons, List.map_nil, if_true, if_false, Bool.false_eq_true, reduceIte, List.all_cons, List.all_nil, Bool.and_true, Bool.true_and, Bool.and_false, Bool.false_and, Bool.not_true, Bool.not_false, Bool.or_false, Bool.or_true, Bool.false_or, Bool.true_or, and_self, and_true, true_and, Int.toNat_natCast, decide_true, decide_false, List.take_zero, List.take_nil, List.take_succ_cons, List.drop_succ_cons, List.drop_zero, List.drop_nil, List.set_nil, List.replicate_succ, List.replicate_zero, List.foldl_cons, List.foldl_nil, Nat.reduceSub, Nat.reduceAdd, Nat.reduceLT, Nat.reduceLeDiff, Nat.reduceEqDiff, Nat.reduceMul, Int.reduceAdd, Int.reduceSub, Int.reduceMul, Int.reduceLT, Int.reduceLE, Int.reduceNeg, Int.reducePow, Int.reduceToNat, or_true, true_or, or_false, false_or, false_and, and_false, Nat.reducePow, not_true_eq_false, not_false_eq_true, Nat.add_zero, Nat.zero_add, Nat.sub_self, Nat.sub_zero, reduceCtorEq, Option.map_map, Int.reduceEq, Int.reduceNe, Int.reduceMod, Int.reduceDiv, List.append_nil, rngL_zero, at0, at1, at2, hr]
      refine (lcL_wp (R := fun p => ∃ (cs : List Nat) (w' : MO), p = (cs.map fun c => .str [c], [w']) ∧ wM w' ∧ cs.length ≤ 7 ∧ ∀ c ∈ cs, c ∈ ord) _
        (fun i acc st => ∃ (cs : List Nat) (w' : MO), acc = (cs.map fun c => .str [c]) ∧ st = [w'] ∧ wM w' ∧ cs.length = i ∧ i ≤ n ∧ ∀ c ∈ cs, c ∈ ord) ⟨[], w3, rfl, rfl, h3, rfl, by omega, by simp⟩ ?_ ?_).mono ?_
      · rintro k s acc st hs ⟨cs, w', rfl, rfl, h4, hc, hk0, hcs⟩
        obtain ⟨hk, rfl⟩ := rngL_get hs
        refine ⟨by simp; have := line_big; omega, ?_⟩
        simp -implicitDefEqProofs only [run_bind, run_some, run_none, run_map, a_var, a_c, a_op, a_un, a_chain, tst_b, a_test, a_and, a_or, a_not, a_andV, a_orV, a_notV, a_if, a_nil, a_cons, a_tup, a_lst, a_new, a_fn, a_isi, a_call, asI_i, a_part, a_noPart, a_cut, a_app, a_ext, a_index, a_sub, a_ps0, a_ps1, a_disp, a_lc, a_tt, a_skip, andThen_nx, andThen_rt, andThen_bk, andThen_ct, a_seq, a_expr, a_ret, a_retN, a_brk, a_cnt, a_ifS, a_set, a_aug, a_asg, two_eq, a_par, a_put, a_daug, a_for, a_scoped, frzO_nx, frzO_bk, frzO_ct, frzO_rt, frzS_d, frzS_r, frzE_nil, frzE_none, frzE_some, a_gN, a_gsNil, a_gsCons, a_gTp, asStr_s, a_strI, asRng_i, a_rng1, asRng2_i, a_rng2, chkOf_d, a_seqI, a_cYes, items_tup, items_lst, litems_lst, ditems_tup, ditems_lst, toD_d, dataAll_nil, dataAll_cons, dataAll_mapd, asD_d, v_ii, v_addI, v_addS, v_addT, v_addL, v_neg, v_ltI, v_ltS, v_eq, v_ne, v_inS, v_notInS, v_ixS, v_ixR, v_ixT, v_ixL, v_cutS, v_cutT, v_cutL, v_lenS, v_lenR, v_lenT, v_lenL, v_abs, v_int1, v_listT, v_listL, v_tupleT, v_tupleL, v_isN, v_notN, isN_non, isN_r, isN_bl, isN_int, isN_str, isN_tup, isN_lst, ty_non, ty_bl, ty_int, ty_str, ty_tup, ty_lst, keyOf_i, keyOf_s, gAddI_i, gSubI_i, index_s, idxKind_s, isDat_d, isDat_r, svB_d, svB_r, moB_lst, moB_dk, natAbs10, asL_l, asK_k, itL_l, liL_l, tdL_l, tdL_k, dsL_k, dsL_l, tyL_l, tyL_k, lstAt_r, dkAt_r, items_r, litems_r, toD_r, dkS_r, dkS_tup, dkS_lst, dkS_dk, dkS_str, tyS_r, v_ixRef, v_lenRef, v_cutRef, ditems_r, v_listRef, v_tupleRef, v_eqRef, v_neRef, v_addRR, v_addRL, v_addLR, finO_nx, finO_rt, finO_bk, finO_ct, isTy_int_NoneType, isTy_int_bool, isTy_int_int, isTy_int_str, isTy_int_tuple, isTy_int_list, isTy_int_dict, isTy_bool_NoneType, isTy_bool_bool, isTy_bool_int, isTy_bool_str, isTy_bool_tuple, isTy_bool_list, isTy_bool_dict, isTy_str_NoneType, isTy_str_bool, isTy_str_int, isTy_str_str, isTy_str_tuple, isTy_str_list, isTy_str_dict, isTy_tuple_NoneType, isTy_tuple_bool, isTy_tuple_int, isTy_tuple_str, isTy_tuple_tuple, isTy_tuple_list, isTy_tuple_dict, isTy_list_NoneType, isTy_list_bool, isTy_list_int, isTy_list_str, isTy_list_tuple, isTy_list_list, isTy_list_dict, isTy_dict_NoneType, isTy_dict_bool, isTy_dict_int, isTy_dict_str, isTy_dict_tuple, isTy_dict_list, isTy_dict_dict, eo_non, eo_bl, eo_int, eo_str, eo_tup, eo_lst, ev_nn, ev_ii, ev_bb, ev_ss, ev_tt, ev_ll, ea_nn, ea_nc, ea_cn, ea_cc, ea_mapd, ev_non_bl, ev_non_int, ev_non_str, ev_non_tup, ev_non_lst, ev_bl_non, ev_bl_str, ev_bl_tup, ev_bl_lst, ev_int_non, ev_int_str, ev_int_tup, ev_int_lst, ev_str_non, ev_str_bl, ev_str_int, ev_str_tup, ev_str_lst, ev_tup_non, ev_tup_bl, ev_tup_int, ev_tup_str, ev_tup_lst, ev_lst_non, ev_lst_bl, ev_lst_int, ev_lst_str, ev_lst_tup, wipeE_nil, wipeE_cons, cast_0, cast_1, cast_2, cast_3, cast_4, cast_5, cast_6, cast_7, cast_8, cast_9, cast_10, cast_11, cast_12, keysOf_nil, keysOf_cons, mergeS_nil, mergeS_cons, inR_s, sz_lt, sz_le, leq_nn, leq_nc, leq_cn, leq_cc, key_ss, key_ii, key_is, key_si, findK_nil, findK_cons, mapS_nil, mapS_cons, putS_nil, putS_cons, Option.bind_some, Option.map_some, Option.bind_none, Option.map_none, List.set_cons_zero, List.set_cons_succ, List.set_nil, List.getElem?_cons_zero, List.getElem?_cons_succ, List.length_cons, List.length_nil, List.nil_append, List.cons_append, List.map_cons, List.map_nil, if_true, if_false, Bool.false_eq_true, reduceIte, List.all_cons, List.all_nil, Bool.and_true, Bool.true_and, Bool.and_false, Bool.false_and, Bool.not_true, Bool.not_false, Bool.or_false, Bool.or_true, Bool.false_or, Bool.true_or, and_self, and_true, true_and, Int.toNat_natCast, decide_true, decide_false, List.take_zero, List.take_nil, List.take_succ_cons, List.drop_succ_cons, List.drop_zero, List.drop_nil, List.set_nil, List.replicate_succ, List.replicate_zero, List.foldl_cons, List.foldl_nil, Nat.reduceSub, Nat.reduceAdd, Nat.reduceLT, Nat.reduceLeDiff, Nat.reduceEqDiff, Nat.reduceMul, Int.reduceAdd, Int.reduceSub, Int.reduceMul, Int.reduceLT, Int.reduceLE, Int.reduceNeg, Int.reducePow, Int.reduceToNat, or_true, true_or, or_false, false_or, false_and, and_false, Nat.reducePow, not_true_eq_false, not_false_eq_true, Nat.add_zero, Nat.zero_add, Nat.sub_self, Nat.sub_zero, reduceCtorEq, Option.map_map, Int.reduceEq, Int.reduceNe, Int.reduceMod, Int.reduceDiv, List.append_nil, rngL_zero, at0, at1, at2]
        refine (c_pickS h4 [] hone).mono ?_
        rintro p ⟨c, hc', w5, rfl, h5⟩
        simp -implicitDefEqProofs only [run_bind, run_some, run_none, run_map, a_var, a_c, a_op, a_un, a_chain, tst_b, a_test, a_and, a_or, a_not, a_andV, a_orV, a_notV, a_if, a_nil, a_cons, a_tup, a_lst, a_new, a_fn, a_isi, a_call, asI_i, a_part, a_noPart, a_cut, a_app, a_ext, a_index, a_sub, a_ps0, a_ps1, a_disp, a_lc, a_tt, a_skip, andThen_nx, andThen_rt, andThen_bk, andThen_ct, a_seq, a_expr, a_ret, a_retN, a_brk, a_cnt, a_ifS, a_set, a_aug, a_asg, two_eq, a_par, a_put, a_daug, a_for, a_scoped, frzO_nx, frzO_bk, frzO_ct, frzO_rt, frzS_d, frzS_r, frzE_nil, frzE_none, frzE_some, a_gN, a_gsNil, a_gsCons, a_gTp, asStr_s, a_strI, asRng_i, a_rng1, asRng2_i, a_rng2, chkOf_d, a_seqI, a_cYes, items_tup, items_lst, litems_lst, ditems_tup, ditems_lst, toD_d, dataAll_nil, dataAll_cons, dataAll_mapd, asD_d, v_ii, v_addI, v_addS, v_addT, v_addL, v_neg, v_ltI, v_ltS, v_eq, v_ne, v_inS, v_notInS, v_ixS, v_ixR, v_ixT, v_ixL, v_cutS, v_cutT, v_cutL, v_lenS, v_lenR, v_lenT, v_lenL, v_abs, v_int1, v_listT, v_listL, v_tupleT, v_tupleL, v_isN, v_notN, isN_non, isN_r, isN_bl, isN_int, isN_str, isN_tup, isN_lst, ty_non, ty_bl, ty_int, ty_str, ty_tup, ty_lst, keyOf_i, keyOf_s, gAddI_i, gSubI_i, index_s, idxKind_s, isDat_d, isDat_r, svB_d, svB_r, moB_lst, moB_dk, natAbs10, asL_l, asK_k, itL_l, liL_l, tdL_l, tdL_k, dsL_k, dsL_l, tyL_l, tyL_k, lstAt_r, dkAt_r, items_r, litems_r, toD_r, dkS_r, dkS_tup, dkS_lst, dkS_dk, dkS_str, tyS_r, v_ixRef, v_lenRef, v_cutRef, ditems_r, v_listRef, v_tupleRef, v_eqRef, v_neRef, v_addRR, v_addRL, v_addLR, finO_nx, finO_rt, finO_bk, finO_ct, isTy_int_NoneType, isTy_int_bool, isTy_int_int, isTy_int_str, isTy_int_tuple, isTy_int_list, isTy_int_dict, isTy_bool_NoneType, isTy_bool_bool, isTy_bool_int, isTy_bool_str, isTy_bool_tuple, isTy_bool_list, isTy_bool_dict, isTy_str_NoneType, isTy_str_bool, isTy_str_int, isTy_str_str, isTy_str_tuple, isTy_str_list, isTy_str_dict, isTy_tuple_NoneType, isTy_tuple_bool, isTy_tuple_int, isTy_tuple_str, isTy_tuple_tuple, isTy_tuple_list, isTy_tuple_dict, isTy_list_NoneType, isTy_list_bool, isTy_list_int, isTy_list_str, isTy_list_tuple, isTy_list_list, isTy_list_dict, isTy_dict_NoneType, isTy_dict_bool, isTy_dict_int, isTy_dict_str, isTy_dict_tuple, isTy_dict_list, isTy_dict_dict, eo_non, eo_bl, eo_int, eo_str, eo_tup, eo_lst, ev_nn, ev_ii, ev_bb, ev_ss, ev_tt, ev_ll, ea_nn, ea_nc, ea_cn, ea_cc, ea_mapd, ev_non_bl, ev_non_int, ev_non_str, ev_non_tup, ev_non_lst, ev_bl_non, ev_bl_str, ev_bl_tup, ev_bl_lst, ev_int_non, ev_int_str, ev_int_tup, ev_int_lst, ev_str_non, ev_str_bl, ev_str_int, ev_str_tup, ev_str_lst, ev_tup_non, ev_tup_bl, ev_tup_int, ev_tup_str, ev_tup_lst, ev_lst_non, ev_lst_bl, ev_lst_int, ev_lst_str, ev_lst_tup, wipeE_nil, wipeE_cons, cast_0, cast_1, cast_2, cast_3, cast_4, cast_5, cast_6, cast_7, cast_8, cast_9, cast_10, cast_11, cast_12, keysOf_nil, keysOf_cons, mergeS_nil, mergeS_cons, inR_s, sz_lt, sz_le, leq_nn, leq_nc, leq_cn, leq_cc, key_ss, key_ii, key_is, key_si, findK_nil, findK_cons, mapS_nil, mapS_cons, putS_nil, putS_cons, Option.bind_some, Option.map_some, Option.bind_none, Option.map_none, List.set_cons_zero, List.set_cons_succ, List.set_nil, List.getElem?_cons_zero, List.getElem?_cons_succ, List.length_cons, List.length_nil, List.nil_append, List.cons_append, List.map_cons, List.map_nil, if_true, if_false, Bool.false_eq_true, reduceIte, List.all_cons, List.all_nil, Bool.and_true, Bool.true_and, Bool.and_false, Bool.false_and, Bool.not_true, Bool.not_false, Bool.or_false, Bool.or_true, Bool.false_or, Bool.true_or, and_self, and_true, true_and, Int.toNat_natCast, decide_true, decide_false, List.take_zero, List.take_nil, List.take_succ_cons, List.drop_succ_cons, List.drop_zero, List.drop_nil, List.set_nil, List.replicate_succ, List.replicate_zero, List.foldl_cons, List.foldl_nil, Nat.reduceSub, Nat.reduceAdd, Nat.reduceLT, Nat.reduceLeDiff, Nat.reduceEqDiff, Nat.reduceMul, Int.reduceAdd, Int.reduceSub, Int.reduceMul, Int.reduceLT, Int.reduceLE, Int.reduceNeg, Int.reducePow, Int.reduceToNat, or_true, true_or, or_false, false_or, false_and, and_false, Nat.reducePow, not_true_eq_false, not_false_eq_true, Nat.add_zero, Nat.zero_add, Nat.sub_self, Nat.sub_zero, reduceCtorEq, Option.map_map, Int.reduceEq, Int.reduceNe, Int.reduceMod, Int.reduceDiv, List.append_nil, rngL_zero, at0, at1, at2]
        refine ⟨_, rfl, cs ++ [c], w5, by simp, rfl, h5, by simp [hc], by omega, fun x hx => ?_⟩
        rcases List.mem_append.mp hx with hx | hx
        · exact hcs x hx
        · simp at hx
          exact hx ▸ hc'
      · rintro acc st ⟨cs, w', rfl, rfl, h4, hc, hk0, hcs⟩
        rw [rngL_len] at hc
        exact ⟨cs, w', rfl, h4, by omega, hcs⟩
      · rintro p ⟨row, w4, rfl, h4, hc, hcs⟩
        have hb0 : 0 < b.length := List.length_pos_iff.mpr hb.ne
        have e2 : callM F__law_from [.d (bD b), .d (.str ord), .d (.int 0), .d (.str row)] [w4] = some (.d (.tup [.str (runB b ord 0 row).1, .int ((runB b ord 0 row).2 : Nat)]), [w4]) := callM_pure [w4] (p_from hb 0 hb0 row hcs (by omega))
        have e3 := callM_pure [w4] (p_ans hb row hcs (by omega))
        have e4 : callM (F__law_alike 12) [.d (.str (runB b ord 0 row).1), .d (.str (runB b ord 0 row).1)] [w4] = some (.d (.bl true), [w4]) := callM_pure [w4] (alike_ok 11 (.str _) (by rfl))
        have e5 := callM_pure [w4] (p_stepped hb hod (by omega) row hcs (by omega))
        simp -implicitDefEqProofs only [run_bind, run_some, run_none, run_map, a_var, a_c, a_op, a_un, a_chain, tst_b, a_test, a_and, a_or, a_not, a_andV, a_orV, a_notV, a_if, a_nil, a_cons, a_tup, a_lst, a_new, a_fn, a_isi, a_call, asI_i, a_part, a_noPart, a_cut, a_app, a_ext, a_index, a_sub, a_ps0, a_ps1, a_disp, a_lc, a_tt, a_skip, andThen_nx, andThen_rt, andThen_bk, andThen_ct, a_seq, a_expr, a_ret, a_retN, a_brk, a_cnt, a_ifS, a_set, a_aug, a_asg, two_eq, a_par, a_put, a_daug, a_for, a_scoped, frzO_nx, frzO_bk, frzO_ct, frzO_rt, frzS_d, frzS_r, frzE_nil, frzE_none, frzE_some, a_gN, a_gsNil, a_gsCons, a_gTp, asStr_s, a_strI, asRng_i, a_rng1, asRng2_i, a_rng2, chkOf_d, a_seqI, a_cYes, items_tup, items_lst, litems_lst, ditems_tup, ditems_lst, toD_d, dataAll_nil, dataAll_cons, dataAll_mapd, asD_d, v_ii, v_addI, v_addS, v_addT, v_addL, v_neg, v_ltI, v_ltS, v_eq, v_ne, v_inS, v_notInS, v_ixS, v_ixR, v_ixT, v_ixL, v_cutS, v_cutT, v_cutL, v_lenS, v_lenR, v_lenT, v_lenL, v_abs, v_int1, v_listT, v_listL, v_tupleT, v_tupleL, v_isN, v_notN, isN_non, isN_r, isN_bl, isN_int, isN_str, isN_tup, isN_lst, ty_non, ty_bl, ty_int, ty_str, ty_tup, ty_lst, keyOf_i, keyOf_s, gAddI_i, gSubI_i, index_s, idxKind_s, isDat_d, isDat_r, svB_d, svB_r, moB_lst, moB_dk, natAbs10, asL_l, asK_k, itL_l, liL_l, tdL_l, tdL_k, dsL_k, dsL_l, tyL_l, tyL_k, lstAt_r, dkAt_r, items_r, litems_r, toD_r, dkS_r, dkS_tup, dkS_lst, dkS_dk, dkS_str, tyS_r, v_ixRef, v_lenRef, v_cutRef, ditems_r, v_listRef, v_tupleRef, v_eqRef, v_neRef, v_addRR, v_addRL, v_addLR, finO_nx, finO_rt, finO_bk, finO_ct, isTy_int_NoneType, isTy_int_bool, isTy_int_int, isTy_int_str, isTy_int_tuple, isTy_int_list, isTy_int_dict, isTy_bool_NoneType, isTy_bool_bool, isTy_bool_int, isTy_bool_str, isTy_bool_tuple, isTy_bool_list, isTy_bool_dict, isTy_str_NoneType, isTy_str_bool, isTy_str_int, isTy_str_str, isTy_str_tuple, isTy_str_list, isTy_str_dict, isTy_tuple_NoneType, isTy_tuple_bool, isTy_tuple_int, isTy_tuple_str, isTy_tuple_tuple, isTy_tuple_list, isTy_tuple_dict, isTy_list_NoneType, isTy_list_bool, isTy_list_int, isTy_list_str, isTy_list_tuple, isTy_list_list, isTy_list_dict, isTy_dict_NoneType, isTy_dict_bool, isTy_dict_int, isTy_dict_str, isTy_dict_tuple, isTy_dict_list, isTy_dict_dict, eo_non, eo_bl, eo_int, eo_str, eo_tup, eo_lst, ev_nn, ev_ii, ev_bb, ev_ss, ev_tt, ev_ll, ea_nn, ea_nc, ea_cn, ea_cc, ea_mapd, ev_non_bl, ev_non_int, ev_non_str, ev_non_tup, ev_non_lst, ev_bl_non, ev_bl_str, ev_bl_tup, ev_bl_lst, ev_int_non, ev_int_str, ev_int_tup, ev_int_lst, ev_str_non, ev_str_bl, ev_str_int, ev_str_tup, ev_str_lst, ev_tup_non, ev_tup_bl, ev_tup_int, ev_tup_str, ev_tup_lst, ev_lst_non, ev_lst_bl, ev_lst_int, ev_lst_str, ev_lst_tup, wipeE_nil, wipeE_cons, cast_0, cast_1, cast_2, cast_3, cast_4, cast_5, cast_6, cast_7, cast_8, cast_9, cast_10, cast_11, cast_12, keysOf_nil, keysOf_cons, mergeS_nil, mergeS_cons, inR_s, sz_lt, sz_le, leq_nn, leq_nc, leq_cn, leq_cc, key_ss, key_ii, key_is, key_si, findK_nil, findK_cons, mapS_nil, mapS_cons, putS_nil, putS_cons, Option.bind_some, Option.map_some, Option.bind_none, Option.map_none, List.set_cons_zero, List.set_cons_succ, List.set_nil, List.getElem?_cons_zero, List.getElem?_cons_succ, List.length_cons, List.length_nil, List.nil_append, List.cons_append, List.map_cons, List.map_nil, if_true, if_false, Bool.false_eq_true, reduceIte, List.all_cons, List.all_nil, Bool.and_true, Bool.true_and, Bool.and_false, Bool.false_and, Bool.not_true, Bool.not_false, Bool.or_false, Bool.or_true, Bool.false_or, Bool.true_or, and_self, and_true, true_and, Int.toNat_natCast, decide_true, decide_false, List.take_zero, List.take_nil, List.take_succ_cons, List.drop_succ_cons, List.drop_zero, List.drop_nil, List.set_nil, List.replicate_succ, List.replicate_zero, List.foldl_cons, List.foldl_nil, Nat.reduceSub, Nat.reduceAdd, Nat.reduceLT, Nat.reduceLeDiff, Nat.reduceEqDiff, Nat.reduceMul, Int.reduceAdd, Int.reduceSub, Int.reduceMul, Int.reduceLT, Int.reduceLE, Int.reduceNeg, Int.reducePow, Int.reduceToNat, or_true, true_or, or_false, false_or, false_and, and_false, Nat.reducePow, not_true_eq_false, not_false_eq_true, Nat.add_zero, Nat.zero_add, Nat.sub_self, Nat.sub_zero, reduceCtorEq, Option.map_map, Int.reduceEq, Int.reduceNe, Int.reduceMod, Int.reduceDiv, List.append_nil, rngL_zero, at0, at1, at2, join_signs _ row (by omega), e2, e3, e4, e5]
        exact ⟨w4, _, _, _, rfl, rfl, h4, okO_d _, okO_d _, okO_d _⟩
    · rintro δ st ⟨w, o6, o7, o8, rfl, rfl, hw, k6, k7, k8⟩
      exact ⟨w, o6, o7, o8, rfl, hw, k6, k7, k8⟩
    · rintro p ⟨w, o6, o7, o8, rfl, hw, k6, k7, k8⟩
      simp -implicitDefEqProofs only [run_bind, run_some, run_none, run_map, a_var, a_c, a_op, a_un, a_chain, tst_b, a_test, a_and, a_or, a_not, a_andV, a_orV, a_notV, a_if, a_nil, a_cons, a_tup, a_lst, a_new, a_fn, a_isi, a_call, asI_i, a_part, a_noPart, a_cut, a_app, a_ext, a_index, a_sub, a_ps0, a_ps1, a_disp, a_lc, a_tt, a_skip, andThen_nx, andThen_rt, andThen_bk, andThen_ct, a_seq, a_expr, a_ret, a_retN, a_brk, a_cnt, a_ifS, a_set, a_aug, a_asg, two_eq, a_par, a_put, a_daug, a_for, a_scoped, frzO_nx, frzO_bk, frzO_ct, frzO_rt, frzS_d, frzS_r, frzE_nil, frzE_none, frzE_some, a_gN, a_gsNil, a_gsCons, a_gTp, asStr_s, a_strI, asRng_i, a_rng1, asRng2_i, a_rng2, chkOf_d, a_seqI, a_cYes, items_tup, items_lst, litems_lst, ditems_tup, ditems_lst, toD_d, dataAll_nil, dataAll_cons, dataAll_mapd, asD_d, v_ii, v_addI, v_addS, v_addT, v_addL, v_neg, v_ltI, v_ltS, v_eq, v_ne, v_inS, v_notInS, v_ixS, v_ixR, v_ixT, v_ixL, v_cutS, v_cutT, v_cutL, v_lenS, v_lenR, v_lenT, v_lenL, v_abs, v_int1, v_listT, v_listL, v_tupleT, v_tupleL, v_isN, v_notN, isN_non, isN_r, isN_bl, isN_int, isN_str, isN_tup, isN_lst, ty_non, ty_bl, ty_int, ty_str, ty_tup, ty_lst, keyOf_i, keyOf_s, gAddI_i, gSubI_i, index_s, idxKind_s, isDat_d, isDat_r, svB_d, svB_r, moB_lst, moB_dk, natAbs10, asL_l, asK_k, itL_l, liL_l, tdL_l, tdL_k, dsL_k, dsL_l, tyL_l, tyL_k, lstAt_r, dkAt_r, items_r, litems_r, toD_r, dkS_r, dkS_tup, dkS_lst, dkS_dk, dkS_str, tyS_r, v_ixRef, v_lenRef, v_cutRef, ditems_r, v_listRef, v_tupleRef, v_eqRef, v_neRef, v_addRR, v_addRL, v_addLR, finO_nx, finO_rt, finO_bk, finO_ct, isTy_int_NoneType, isTy_int_bool, isTy_int_int, isTy_int_str, isTy_int_tuple, isTy_int_list, isTy_int_dict, isTy_bool_NoneType, isTy_bool_bool, isTy_bool_int, isTy_bool_str, isTy_bool_tuple, isTy_bool_list, isTy_bool_dict, isTy_str_NoneType, isTy_str_bool, isTy_str_int, isTy_str_str, isTy_str_tuple, isTy_str_list, isTy_str_dict, isTy_tuple_NoneType, isTy_tuple_bool, isTy_tuple_int, isTy_tuple_str, isTy_tuple_tuple, isTy_tuple_list, isTy_tuple_dict, isTy_list_NoneType, isTy_list_bool, isTy_list_int, isTy_list_str, isTy_list_tuple, isTy_list_list, isTy_list_dict, isTy_dict_NoneType, isTy_dict_bool, isTy_dict_int, isTy_dict_str, isTy_dict_tuple, isTy_dict_list, isTy_dict_dict, eo_non, eo_bl, eo_int, eo_str, eo_tup, eo_lst, ev_nn, ev_ii, ev_bb, ev_ss, ev_tt, ev_ll, ea_nn, ea_nc, ea_cn, ea_cc, ea_mapd, ev_non_bl, ev_non_int, ev_non_str, ev_non_tup, ev_non_lst, ev_bl_non, ev_bl_str, ev_bl_tup, ev_bl_lst, ev_int_non, ev_int_str, ev_int_tup, ev_int_lst, ev_str_non, ev_str_bl, ev_str_int, ev_str_tup, ev_str_lst, ev_tup_non, ev_tup_bl, ev_tup_int, ev_tup_str, ev_tup_lst, ev_lst_non, ev_lst_bl, ev_lst_int, ev_lst_str, ev_lst_tup, wipeE_nil, wipeE_cons, cast_0, cast_1, cast_2, cast_3, cast_4, cast_5, cast_6, cast_7, cast_8, cast_9, cast_10, cast_11, cast_12, keysOf_nil, keysOf_cons, mergeS_nil, mergeS_cons, inR_s, sz_lt, sz_le, leq_nn, leq_nc, leq_cn, leq_cc, key_ss, key_ii, key_is, key_si, findK_nil, findK_cons, mapS_nil, mapS_cons, putS_nil, putS_cons, Option.bind_some, Option.map_some, Option.bind_none, Option.map_none, List.set_cons_zero, List.set_cons_succ, List.set_nil, List.getElem?_cons_zero, List.getElem?_cons_succ, List.length_cons, List.length_nil, List.nil_append, List.cons_append, List.map_cons, List.map_nil, if_true, if_false, Bool.false_eq_true, reduceIte, List.all_cons, List.all_nil, Bool.and_true, Bool.true_and, Bool.and_false, Bool.false_and, Bool.not_true, Bool.not_false, Bool.or_false, Bool.or_true, Bool.false_or, Bool.true_or, and_self, and_true, true_and, Int.toNat_natCast, decide_true, decide_false, List.take_zero, List.take_nil, List.take_succ_cons, List.drop_succ_cons, List.drop_zero, List.drop_nil, List.set_nil, List.replicate_succ, List.replicate_zero, List.foldl_cons, List.foldl_nil, Nat.reduceSub, Nat.reduceAdd, Nat.reduceLT, Nat.reduceLeDiff, Nat.reduceEqDiff, Nat.reduceMul, Int.reduceAdd, Int.reduceSub, Int.reduceMul, Int.reduceLT, Int.reduceLE, Int.reduceNeg, Int.reducePow, Int.reduceToNat, or_true, true_or, or_false, false_or, false_and, and_false, Nat.reducePow, not_true_eq_false, not_false_eq_true, Nat.add_zero, Nat.zero_add, Nat.sub_self, Nat.sub_zero, reduceCtorEq, Option.map_map, Int.reduceEq, Int.reduceNe, Int.reduceMod, Int.reduceDiv, List.append_nil, rngL_zero, at0, at1, at2]
      refine (forL_wp _ (fun i' δ st => ∃ (w : MO) (o6 : Option SV) (v : D), δ = [some (.d (.scr ns)), some (.r 0), some (.d (.int (0 + (i : Int)))), some (.d (.str ord)), some (.d (bD b)), some (.d (sD ord b)), o6, o7, o8, some (.d v), none] ∧ st = [w] ∧ wM w ∧ okO o6 ∧ eqOk 30 v = true)
        (R := fun p => p.1 = .nx ∧ LawI ns p.2.1 p.2.2) ⟨w, o6, bD b, rfl, rfl, hw, k6, ?_⟩ ?_ ?_).mono ?_
      · rw [eo_tup]
        exact ok_rows 27 b
      · rintro j s δ st hs ⟨w, o6, v, rfl, rfl, hw, k6, hv⟩
        obtain ⟨hj, rfl⟩ := rngL_get hs
        have e2 := callM_pure [w] (p_isbox v ord hv)
        have e3 := callM_pure [w] (p_lawbox v ord hv (by omega))
        have e4 : callM (F__law_alike 12) [.d (.bl (boxD ord.length v)), .d (.bl (boxD ord.length v))] [w] = some (.d (.bl true), [w]) := callM_pure [w] (alike_ok 11 (.bl _) (by rfl))
        simp -implicitDefEqProofs only [run_bind, run_some, run_none, run_map, a_var, a_c, a_op, a_un, a_chain, tst_b, a_test, a_and, a_or, a_not, a_andV, a_orV, a_notV, a_if, a_nil, a_cons, a_tup, a_lst, a_new, a_fn, a_isi, a_call, asI_i, a_part, a_noPart, a_cut, a_app, a_ext, a_index, a_sub, a_ps0, a_ps1, a_disp, a_lc, a_tt, a_skip, andThen_nx, andThen_rt, andThen_bk, andThen_ct, a_seq, a_expr, a_ret, a_retN, a_brk, a_cnt, a_ifS, a_set, a_aug, a_asg, two_eq, a_par, a_put, a_daug, a_for, a_scoped, frzO_nx, frzO_bk, frzO_ct, frzO_rt, frzS_d, frzS_r, frzE_nil, frzE_none, frzE_some, a_gN, a_gsNil, a_gsCons, a_gTp, asStr_s, a_strI, asRng_i, a_rng1, asRng2_i, a_rng2, chkOf_d, a_seqI, a_cYes, items_tup, items_lst, litems_lst, ditems_tup, ditems_lst, toD_d, dataAll_nil, dataAll_cons, dataAll_mapd, asD_d, v_ii, v_addI, v_addS, v_addT, v_addL, v_neg, v_ltI, v_ltS, v_eq, v_ne, v_inS, v_notInS, v_ixS, v_ixR, v_ixT, v_ixL, v_cutS, v_cutT, v_cutL, v_lenS, v_lenR, v_lenT, v_lenL, v_abs, v_int1, v_listT, v_listL, v_tupleT, v_tupleL, v_isN, v_notN, isN_non, isN_r, isN_bl, isN_int, isN_str, isN_tup, isN_lst, ty_non, ty_bl, ty_int, ty_str, ty_tup, ty_lst, keyOf_i, keyOf_s, gAddI_i, gSubI_i, index_s, idxKind_s, isDat_d, isDat_r, svB_d, svB_r, moB_lst, moB_dk, natAbs10, asL_l, asK_k, itL_l, liL_l, tdL_l, tdL_k, dsL_k, dsL_l, tyL_l, tyL_k, lstAt_r, dkAt_r, items_r, litems_r, toD_r, dkS_r, dkS_tup, dkS_lst, dkS_dk, dkS_str, tyS_r, v_ixRef, v_lenRef, v_cutRef, ditems_r, v_listRef, v_tupleRef, v_eqRef, v_neRef, v_addRR, v_addRL, v_addLR, finO_nx, finO_rt, finO_bk, finO_ct, isTy_int_NoneType, isTy_int_bool, isTy_int_int, isTy_int_str, isTy_int_tuple, isTy_int_list, isTy_int_dict, isTy_bool_NoneType, isTy_bool_bool, isTy_bool_int, isTy_bool_str, isTy_bool_tuple, isTy_bool_list, isTy_bool_dict, isTy_str_NoneType, isTy_str_bool, isTy_str_int, isTy_str_str, isTy_str_tuple, isTy_str_list, isTy_str_dict, isTy_tuple_NoneType, isTy_tuple_bool, isTy_tuple_int, isTy_tuple_str, isTy_tuple_tuple, isTy_tuple_list, isTy_tuple_dict, isTy_list_NoneType, isTy_list_bool, isTy_list_int, isTy_list_str, isTy_list_tuple, isTy_list_list, isTy_list_dict, isTy_dict_NoneType, isTy_dict_bool, isTy_dict_int, isTy_dict_str, isTy_dict_tuple, isTy_dict_list, isTy_dict_dict, eo_non, eo_bl, eo_int, eo_str, eo_tup, eo_lst, ev_nn, ev_ii, ev_bb, ev_ss, ev_tt, ev_ll, ea_nn, ea_nc, ea_cn, ea_cc, ea_mapd, ev_non_bl, ev_non_int, ev_non_str, ev_non_tup, ev_non_lst, ev_bl_non, ev_bl_str, ev_bl_tup, ev_bl_lst, ev_int_non, ev_int_str, ev_int_tup, ev_int_lst, ev_str_non, ev_str_bl, ev_str_int, ev_str_tup, ev_str_lst, ev_tup_non, ev_tup_bl, ev_tup_int, ev_tup_str, ev_tup_lst, ev_lst_non, ev_lst_bl, ev_lst_int, ev_lst_str, ev_lst_tup, wipeE_nil, wipeE_cons, cast_0, cast_1, cast_2, cast_3, cast_4, cast_5, cast_6, cast_7, cast_8, cast_9, cast_10, cast_11, cast_12, keysOf_nil, keysOf_cons, mergeS_nil, mergeS_cons, inR_s, sz_lt, sz_le, leq_nn, leq_nc, leq_cn, leq_cc, key_ss, key_ii, key_is, key_si, findK_nil, findK_cons, mapS_nil, mapS_cons, putS_nil, putS_cons, Option.bind_some, Option.map_some, Option.bind_none, Option.map_none, List.set_cons_zero, List.set_cons_succ, List.set_nil, List.getElem?_cons_zero, List.getElem?_cons_succ, List.length_cons, List.length_nil, List.nil_append, List.cons_append, List.map_cons, List.map_nil, if_true, if_false, Bool.false_eq_true, reduceIte, List.all_cons, List.all_nil, Bool.and_true, Bool.true_and, Bool.and_false, Bool.false_and, Bool.not_true, Bool.not_false, Bool.or_false, Bool.or_true, Bool.false_or, Bool.true_or, and_self, and_true, true_and, Int.toNat_natCast, decide_true, decide_false, List.take_zero, List.take_nil, List.take_succ_cons, List.drop_succ_cons, List.drop_zero, List.drop_nil, List.set_nil, List.replicate_succ, List.replicate_zero, List.foldl_cons, List.foldl_nil, Nat.reduceSub, Nat.reduceAdd, Nat.reduceLT, Nat.reduceLeDiff, Nat.reduceEqDiff, Nat.reduceMul, Int.reduceAdd, Int.reduceSub, Int.reduceMul, Int.reduceLT, Int.reduceLE, Int.reduceNeg, Int.reducePow, Int.reduceToNat, or_true, true_or, or_false, false_or, false_and, and_false, Nat.reducePow, not_true_eq_false, not_false_eq_true, Nat.add_zero, Nat.zero_add, Nat.sub_self, Nat.sub_zero, reduceCtorEq, Option.map_map, Int.reduceEq, Int.reduceNe, Int.reduceMod, Int.reduceDiv, List.append_nil, rngL_zero, at0, at1, at2, e2, e3, e4]
        refine (c_w hw [] (as := [.d (bD b)]) rfl (Q := fun v => eqOk 30 v = true) (p_bent hw hb ho0 (by omega))).mono ?_
        rintro p ⟨v', w5, rfl, h5, hv5⟩
        simp -implicitDefEqProofs only [run_bind, run_some, run_none, run_map, a_var, a_c, a_op, a_un, a_chain, tst_b, a_test, a_and, a_or, a_not, a_andV, a_orV, a_notV, a_if, a_nil, a_cons, a_tup, a_lst, a_new, a_fn, a_isi, a_call, asI_i, a_part, a_noPart, a_cut, a_app, a_ext, a_index, a_sub, a_ps0, a_ps1, a_disp, a_lc, a_tt, a_skip, andThen_nx, andThen_rt, andThen_bk, andThen_ct, a_seq, a_expr, a_ret, a_retN, a_brk, a_cnt, a_ifS, a_set, a_aug, a_asg, two_eq, a_par, a_put, a_daug, a_for, a_scoped, frzO_nx, frzO_bk, frzO_ct, frzO_rt, frzS_d, frzS_r, frzE_nil, frzE_none, frzE_some, a_gN, a_gsNil, a_gsCons, a_gTp, asStr_s, a_strI, asRng_i, a_rng1, asRng2_i, a_rng2, chkOf_d, a_seqI, a_cYes, items_tup, items_lst, litems_lst, ditems_tup, ditems_lst, toD_d, dataAll_nil, dataAll_cons, dataAll_mapd, asD_d, v_ii, v_addI, v_addS, v_addT, v_addL, v_neg, v_ltI, v_ltS, v_eq, v_ne, v_inS, v_notInS, v_ixS, v_ixR, v_ixT, v_ixL, v_cutS, v_cutT, v_cutL, v_lenS, v_lenR, v_lenT, v_lenL, v_abs, v_int1, v_listT, v_listL, v_tupleT, v_tupleL, v_isN, v_notN, isN_non, isN_r, isN_bl, isN_int, isN_str, isN_tup, isN_lst, ty_non, ty_bl, ty_int, ty_str, ty_tup, ty_lst, keyOf_i, keyOf_s, gAddI_i, gSubI_i, index_s, idxKind_s, isDat_d, isDat_r, svB_d, svB_r, moB_lst, moB_dk, natAbs10, asL_l, asK_k, itL_l, liL_l, tdL_l, tdL_k, dsL_k, dsL_l, tyL_l, tyL_k, lstAt_r, dkAt_r, items_r, litems_r, toD_r, dkS_r, dkS_tup, dkS_lst, dkS_dk, dkS_str, tyS_r, v_ixRef, v_lenRef, v_cutRef, ditems_r, v_listRef, v_tupleRef, v_eqRef, v_neRef, v_addRR, v_addRL, v_addLR, finO_nx, finO_rt, finO_bk, finO_ct, isTy_int_NoneType, isTy_int_bool, isTy_int_int, isTy_int_str, isTy_int_tuple, isTy_int_list, isTy_int_dict, isTy_bool_NoneType, isTy_bool_bool, isTy_bool_int, isTy_bool_str, isTy_bool_tuple, isTy_bool_list, isTy_bool_dict, isTy_str_NoneType, isTy_str_bool, isTy_str_int, isTy_str_str, isTy_str_tuple, isTy_str_list, isTy_str_dict, isTy_tuple_NoneType, isTy_tuple_bool, isTy_tuple_int, isTy_tuple_str, isTy_tuple_tuple, isTy_tuple_list, isTy_tuple_dict, isTy_list_NoneType, isTy_list_bool, isTy_list_int, isTy_list_str, isTy_list_tuple, isTy_list_list, isTy_list_dict, isTy_dict_NoneType, isTy_dict_bool, isTy_dict_int, isTy_dict_str, isTy_dict_tuple, isTy_dict_list, isTy_dict_dict, eo_non, eo_bl, eo_int, eo_str, eo_tup, eo_lst, ev_nn, ev_ii, ev_bb, ev_ss, ev_tt, ev_ll, ea_nn, ea_nc, ea_cn, ea_cc, ea_mapd, ev_non_bl, ev_non_int, ev_non_str, ev_non_tup, ev_non_lst, ev_bl_non, ev_bl_str, ev_bl_tup, ev_bl_lst, ev_int_non, ev_int_str, ev_int_tup, ev_int_lst, ev_str_non, ev_str_bl, ev_str_int, ev_str_tup, ev_str_lst, ev_tup_non, ev_tup_bl, ev_tup_int, ev_tup_str, ev_tup_lst, ev_lst_non, ev_lst_bl, ev_lst_int, ev_lst_str, ev_lst_tup, wipeE_nil, wipeE_cons, cast_0, cast_1, cast_2, cast_3, cast_4, cast_5, cast_6, cast_7, cast_8, cast_9, cast_10, cast_11, cast_12, keysOf_nil, keysOf_cons, mergeS_nil, mergeS_cons, inR_s, sz_lt, sz_le, leq_nn, leq_nc, leq_cn, leq_cc, key_ss, key_ii, key_is, key_si, findK_nil, findK_cons, mapS_nil, mapS_cons, putS_nil, putS_cons, Option.bind_some, Option.map_some, Option.bind_none, Option.map_none, List.set_cons_zero, List.set_cons_succ, List.set_nil, List.getElem?_cons_zero, List.getElem?_cons_succ, List.length_cons, List.length_nil, List.nil_append, List.cons_append, List.map_cons, List.map_nil, if_true, if_false, Bool.false_eq_true, reduceIte, List.all_cons, List.all_nil, Bool.and_true, Bool.true_and, Bool.and_false, Bool.false_and, Bool.not_true, Bool.not_false, Bool.or_false, Bool.or_true, Bool.false_or, Bool.true_or, and_self, and_true, true_and, Int.toNat_natCast, decide_true, decide_false, List.take_zero, List.take_nil, List.take_succ_cons, List.drop_succ_cons, List.drop_zero, List.drop_nil, List.set_nil, List.replicate_succ, List.replicate_zero, List.foldl_cons, List.foldl_nil, Nat.reduceSub, Nat.reduceAdd, Nat.reduceLT, Nat.reduceLeDiff, Nat.reduceEqDiff, Nat.reduceMul, Int.reduceAdd, Int.reduceSub, Int.reduceMul, Int.reduceLT, Int.reduceLE, Int.reduceNeg, Int.reducePow, Int.reduceToNat, or_true, true_or, or_false, false_or, false_and, and_false, Nat.reducePow, not_true_eq_false, not_false_eq_true, Nat.add_zero, Nat.zero_add, Nat.sub_self, Nat.sub_zero, reduceCtorEq, Option.map_map, Int.reduceEq, Int.reduceNe, Int.reduceMod, Int.reduceDiv, List.append_nil, rngL_zero, at0, at1, at2]
        exact ⟨w5, _, v', rfl, rfl, h5, okO_d _, hv5⟩
      · rintro δ st ⟨w, o6, v, rfl, rfl, hw, k6, hv⟩
        exact ⟨rfl, w, _, _, _, _, _, _, _, _, rfl, rfl, hw, okO_d _, okO_d _, okO_d _, okO_d _, k6, k7, k8, okO_d _⟩
      · rintro ⟨o, δ, st⟩ ⟨h1, h2⟩
        dsimp only at h1
        subst h1
        exact h2
  · rintro ⟨o, δ, st⟩ ⟨h1, w, o2, o3, o4, o5, o6, o7, o8, o9, h2, h3, hw, k2, k3, k4, k5, k6, k7, k8, k9⟩
    dsimp only at h1 h2 h3
    subst h1 h2 h3
    have e1 := callM_pure [w] (p_isbox (.tup [.tup []]) [] (by simp))
    have e2 := callM_pure [w] (p_isbox (.tup []) [97] (by simp))
    have b1 : boxD ([] : List Nat).length (.tup [.tup []]) = true := by decide
    have b2 : boxD ([97] : List Nat).length (.tup []) = false := by decide
    rw [b1] at e1
    rw [b2] at e2
    have e4 : callM (F__law_alike 12) [.d (.bl true), .d (.bl true)] [w] = some (.d (.bl true), [w]) := callM_pure [w] (alike_ok 11 (.bl _) (by rfl))
    have e5 : callM (F__law_alike 12) [.d (.bl false), .d (.bl false)] [w] = some (.d (.bl true), [w]) := callM_pure [w] (alike_ok 11 (.bl _) (by rfl))
    obtain ⟨x, hx⟩ := wM_frz hw
    simp -implicitDefEqProofs only [run_bind, run_some, run_none, run_map, a_var, a_c, a_op, a_un, a_chain, tst_b, a_test, a_and, a_or, a_not, a_andV, a_orV, a_notV, a_if, a_nil, a_cons, a_tup, a_lst, a_new, a_fn, a_isi, a_call, asI_i, a_part, a_noPart, a_cut, a_app, a_ext, a_index, a_sub, a_ps0, a_ps1, a_disp, a_lc, a_tt, a_skip, andThen_nx, andThen_rt, andThen_bk, andThen_ct, a_seq, a_expr, a_ret, a_retN, a_brk, a_cnt, a_ifS, a_set, a_aug, a_asg, two_eq, a_par, a_put, a_daug, a_for, a_scoped, frzO_nx, frzO_bk, frzO_ct, frzO_rt, frzS_d, frzS_r, frzE_nil, frzE_none, frzE_some, a_gN, a_gsNil, a_gsCons, a_gTp, asStr_s, a_strI, asRng_i, a_rng1, asRng2_i, a_rng2, chkOf_d, a_seqI, a_cYes, items_tup, items_lst, litems_lst, ditems_tup, ditems_lst, toD_d, dataAll_nil, dataAll_cons, dataAll_mapd, asD_d, v_ii, v_addI, v_addS, v_addT, v_addL, v_neg, v_ltI, v_ltS, v_eq, v_ne, v_inS, v_notInS, v_ixS, v_ixR, v_ixT, v_ixL, v_cutS, v_cutT, v_cutL, v_lenS, v_lenR, v_lenT, v_lenL, v_abs, v_int1, v_listT, v_listL, v_tupleT, v_tupleL, v_isN, v_notN, isN_non, isN_r, isN_bl, isN_int, isN_str, isN_tup, isN_lst, ty_non, ty_bl, ty_int, ty_str, ty_tup, ty_lst, keyOf_i, keyOf_s, gAddI_i, gSubI_i, index_s, idxKind_s, isDat_d, isDat_r, svB_d, svB_r, moB_lst, moB_dk, natAbs10, asL_l, asK_k, itL_l, liL_l, tdL_l, tdL_k, dsL_k, dsL_l, tyL_l, tyL_k, lstAt_r, dkAt_r, items_r, litems_r, toD_r, dkS_r, dkS_tup, dkS_lst, dkS_dk, dkS_str, tyS_r, v_ixRef, v_lenRef, v_cutRef, ditems_r, v_listRef, v_tupleRef, v_eqRef, v_neRef, v_addRR, v_addRL, v_addLR, finO_nx, finO_rt, finO_bk, finO_ct, isTy_int_NoneType, isTy_int_bool, isTy_int_int, isTy_int_str, isTy_int_tuple, isTy_int_list, isTy_int_dict, isTy_bool_NoneType, isTy_bool_bool, isTy_bool_int, isTy_bool_str, isTy_bool_tuple, isTy_bool_list, isTy_bool_dict, isTy_str_NoneType, isTy_str_bool, isTy_str_int, isTy_str_str, isTy_str_tuple, isTy_str_list, isTy_str_dict, isTy_tuple_NoneType, isTy_tuple_bool, isTy_tuple_int, isTy_tuple_str, isTy_tuple_tuple, isTy_tuple_list, isTy_tuple_dict, isTy_list_NoneType, isTy_list_bool, isTy_list_int, isTy_list_str, isTy_list_tuple, isTy_list_list, isTy_list_dict, isTy_dict_NoneType, isTy_dict_bool, isTy_dict_int, isTy_dict_str, isTy_dict_tuple, isTy_dict_list, isTy_dict_dict, eo_non, eo_bl, eo_int, eo_str, eo_tup, eo_lst, ev_nn, ev_ii, ev_bb, ev_ss, ev_tt, ev_ll, ea_nn, ea_nc, ea_cn, ea_cc, ea_mapd, ev_non_bl, ev_non_int, ev_non_str, ev_non_tup, ev_non_lst, ev_bl_non, ev_bl_str, ev_bl_tup, ev_bl_lst, ev_int_non, ev_int_str, ev_int_tup, ev_int_lst, ev_str_non, ev_str_bl, ev_str_int, ev_str_tup, ev_str_lst, ev_tup_non, ev_tup_bl, ev_tup_int, ev_tup_str, ev_tup_lst, ev_lst_non, ev_lst_bl, ev_lst_int, ev_lst_str, ev_lst_tup, wipeE_nil, wipeE_cons, cast_0, cast_1, cast_2, cast_3, cast_4, cast_5, cast_6, cast_7, cast_8, cast_9, cast_10, cast_11, cast_12, keysOf_nil, keysOf_cons, mergeS_nil, mergeS_cons, inR_s, sz_lt, sz_le, leq_nn, leq_nc, leq_cn, leq_cc, key_ss, key_ii, key_is, key_si, findK_nil, findK_cons, mapS_nil, mapS_cons, putS_nil, putS_cons, Option.bind_some, Option.map_some, Option.bind_none, Option.map_none, List.set_cons_zero, List.set_cons_succ, List.set_nil, List.getElem?_cons_zero, List.getElem?_cons_succ, List.length_cons, List.length_nil, List.nil_append, List.cons_append, List.map_cons, List.map_nil, if_true, if_false, Bool.false_eq_true, reduceIte, List.all_cons, List.all_nil, Bool.and_true, Bool.true_and, Bool.and_false, Bool.false_and, Bool.not_true, Bool.not_false, Bool.or_false, Bool.or_true, Bool.false_or, Bool.true_or, and_self, and_true, true_and, Int.toNat_natCast, decide_true, decide_false, List.take_zero, List.take_nil, List.take_succ_cons, List.drop_succ_cons, List.drop_zero, List.drop_nil, List.set_nil, List.replicate_succ, List.replicate_zero, List.foldl_cons, List.foldl_nil, Nat.reduceSub, Nat.reduceAdd, Nat.reduceLT, Nat.reduceLeDiff, Nat.reduceEqDiff, Nat.reduceMul, Int.reduceAdd, Int.reduceSub, Int.reduceMul, Int.reduceLT, Int.reduceLE, Int.reduceNeg, Int.reducePow, Int.reduceToNat, or_true, true_or, or_false, false_or, false_and, and_false, Nat.reducePow, not_true_eq_false, not_false_eq_true, Nat.add_zero, Nat.zero_add, Nat.sub_self, Nat.sub_zero, reduceCtorEq, Option.map_map, Int.reduceEq, Int.reduceNe, Int.reduceMod, Int.reduceDiv, List.append_nil, rngL_zero, at0, at1, at2, e1, e2, e4, e5, hx, frzE_okO k2, frzE_okO k3, frzE_okO k4, frzE_okO k5, frzE_okO k6, frzE_okO k7, frzE_okO k8, frzE_okO k9]
end K44

open PySem PySem.W PyProof.Rows
set_option maxHeartbeats 0 in
theorem PySem.Challenge.cw_twotapes_k44_boxes_holds : PySem.Challenge.rw_twotapes_k44_boxes.Holds := by
  w_on; o_law; k_head; (case hw => w_witness2)
  k_fill
  refine L2.walk_of (l := PySem.Challenge.rw_twotapes_k44_boxes) (n := 63) (k := 14) (x := "script") (CX := fun _ => L2.CX0) (sp := fun w => DL.spM _ 1 K44.F_law) rfl (by decide) rfl ⟨rfl, by decide, by decide⟩ (fun w h Y => PySem.W.kIn_of Y) ?F (fun _ _ a ns hl _ hS => DL.sp_end hS (K44.p_law ns hl)) (fun _ _ _ _ _ h => h)
  case F =>
    intro w mg fa h KX G hmg
    refine' K44.all_mk KX G hmg ?a0 ?l0 ?c0 ?k0 ?a1 ?l1 ?c1 ?k1 ?a2 ?l2 ?c2 ?k2 ?a3 ?l3 ?c3 ?k3 ?a4 ?l4 ?c4 ?k4 ?a5 ?l5 ?c5 ?k5 ?a6 ?l6 ?c6 ?k6 ?a7 ?l7 ?c7 ?k7 ?a8 ?l8 ?c8 ?k8 ?a9 ?l9 ?c9 ?k9 ?a10 ?l10 ?c10 ?k10 ?a11 ?l11 ?c11 ?k11 ?a12 ?l12 ?c12 ?k12 ?a13 ?l13 ?c13 ?k13 ?a14 ?l14 ?c14 ?k14 ?a15 ?l15 ?c15 ?k15 ?a16 ?l16 ?c16 ?k16 ?a17 ?l17 ?c17 ?k17 ?z_abs ?z_bool ?z_int ?z_isinstance ?z_len ?z_list ?z_range ?z_str ?z_tuple ?y_LETTERS
    (case a0 => k_is); (case l0 => k_is); (case c0 => k_is); (case k0 => k_is); (case a1 => k_is); (case l1 => k_is); (case c1 => k_is); (case k1 => k_is); (case a2 => k_is); (case l2 => k_is); (case c2 => k_is); (case k2 => k_is); (case a3 => k_is); (case l3 => k_is); (case c3 => k_is); (case k3 => k_is); (case a4 => k_is); (case l4 => k_is); (case c4 => k_is); (case k4 => k_is); (case a5 => k_is); (case l5 => k_is); (case c5 => k_is); (case k5 => k_is); (case a6 => k_is); (case l6 => k_is); (case c6 => k_is); (case k6 => k_is); (case a7 => k_is); (case l7 => k_is); (case c7 => k_is); (case k7 => k_is); (case a8 => k_is); (case l8 => k_is); (case c8 => k_is); (case k8 => k_is); (case a9 => k_is); (case l9 => k_is); (case c9 => k_is); (case k9 => k_is); (case a10 => k_is); (case l10 => k_is); (case c10 => k_is); (case k10 => k_is); (case a11 => k_is); (case l11 => k_is); (case c11 => k_is); (case k11 => k_is); (case a12 => k_is); (case l12 => k_is); (case c12 => k_is); (case k12 => k_is); (case a13 => k_is); (case l13 => k_is); (case c13 => k_is); (case k13 => k_is); (case a14 => k_is); (case l14 => k_is); (case c14 => k_is); (case k14 => k_is); (case a15 => k_is); (case l15 => k_is); (case c15 => k_is); (case k15 => k_is); (case a16 => k_is); (case l16 => k_is); (case c16 => k_is); (case k16 => k_is); (case a17 => k_is); (case l17 => k_is); (case c17 => k_is); (case k17 => k_is); (case z_abs => k_is); (case z_bool => k_is); (case z_int => k_is); (case z_isinstance => k_is); (case z_len => k_is); (case z_list => k_is); (case z_range => k_is); (case z_str => k_is); (case z_tuple => k_is); (case y_LETTERS => k_is)

