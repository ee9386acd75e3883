import PyProof.Rows.All
import Wide.All
import OpenK.AllK
import Wide.FinOn
import HandS.ForMost
import HandS.Wide
import HandS.Exc
import HandS.ForExc
import HandS.WideBits
import HandS.TupAny
import HandS.TupMul
import HandS.Rev
import HandS.IsInst
import HandS.RaiseMore
import HandS.Conv
import HandS.RevRange
import HandS.SortInts
import HandS.Dict
import HandS.More
import HandS.WordsDict
import HandS.DictComp
import HandS.Iter
import HandS.DeepEq
import KE.KEqNest
import HandS.EndBits
import KE.IntBitsLaws
import HandS.ExcInit
import HandS.ExcField
import KE.KExcIs
import HandS.ExcValue
import HandS.ReplaceLit
import PySem.Challenge.RW_pricecover_k03_no_term
set_option Elab.async false
set_option linter.all false
set_option maxRecDepth 100000
/-! DL1: values as plain data (D), how the heap bears them (Rep), the slots' meaning (EnvOk), the judgements over data. -/
namespace DL
open PySem PySem.Spec PyProof.Rows L2
/-- a truth as a Bool that nothing reckons by itself (the kernel would count down great numbers) -/
noncomputable def okP (p : Prop) : Bool := @decide p (Classical.propDecidable p)
theorem okP_iff {p : Prop} : okP p = true ↔ p := by
  unfold okP
  exact @decide_eq_true_iff p (Classical.propDecidable p)
theorem okP_eq {p : Prop} [Decidable p] : okP p = decide p := by
  by_cases h : p
  · rw [decide_eq_true h]; exact okP_iff.mpr h
  · rw [decide_eq_false h]
    cases e : okP p with
    | true => exact absurd (okP_iff.mp e) h
    | false => rfl
theorem okP_false {p : Prop} : okP p = false ↔ ¬ p := by
  cases e : okP p with
  | true => simp [okP_iff.mp e]
  | false => simp; exact fun h => by rw [okP_iff.mpr h] at e; cases e
/-! ### wishes, by the machine itself -/
section
variable (X : Cx)
def WE (e : Expr) : TE := fun σ H Q => ∀ (pins : List (Addr × Obj)) (s : Shared), Inv X pins σ H s → wpAny (model X.prog X.w) X.A (eval e X.env) (EP X pins σ Q) X.xe s
def WT (e : Expr) : TT := fun σ H Q => ∀ (pins : List (Addr × Obj)) (s : Shared), Inv X pins σ H s → wpAny (model X.prog X.w) X.A (isTrue e X.env (eval e X.env)) (TP X pins σ Q) X.xe s
def WW (e : Expr) : TT := fun σ H Q => ∀ (whole : Sem Value) (pins : List (Addr × Obj)) (s : Shared), Inv X pins σ H s → wpAny (model X.prog X.w) X.A (isTrue e X.env whole) (TP X pins σ Q) X.xe s
def WA (es : List Expr) : TA := fun σ H Q => ∀ (pos : Pos) (pins : List (Addr × Obj)) (s : Shared), Inv X pins σ H s → wpAny (model X.prog X.w) X.A (spliced (backTo pos (starEach es X.env))) (AP X pins σ Q) X.xe s
def WS (st : Stmt) : TS := fun D σ H => ∀ (pins : List (Addr × Obj)) (s : Shared), Inv X pins σ H s → wpAny (model X.prog X.w) X.A (exec st X.env) (SP X pins D) X.xe s
def WSs (st : List Stmt) : TS := fun D σ H => ∀ (pins : List (Addr × Obj)) (s : Shared), Inv X pins σ H s → wpAny (model X.prog X.w) X.A (execs st X.env) (SP X pins D) X.xe s
def WI (tg iter : Expr) : TI := fun σ H R => ∀ (pins : List (Addr × Obj)) (s : Shared), Inv X pins σ H s →
    wpAny (model X.prog X.w) X.A (eval iter X.env) (fun v s1 => wpAny (model X.prog X.w) X.A (pyIter v) (PIE X pins σ tg R) X.xe s1) X.xe s
theorem we (e : Expr) : PE X e (WE X e) := ⟨fun pins s _ _ _ I h => h pins s I⟩
theorem wt (e : Expr) : PT X e (WT X e) := ⟨fun pins s _ _ _ I h => h pins s I⟩
theorem ww (e : Expr) : PW X e (WW X e) := ⟨fun wh pins s _ _ _ I h => h wh pins s I⟩
theorem wa (es : List Expr) : PA X es (WA X es) := ⟨fun pos pins s _ _ _ I h => h pos pins s I⟩
theorem ws (st : Stmt) : PS X st (WS X st) := ⟨fun pins s _ _ _ I h => h pins s I⟩
theorem wss (st : List Stmt) : PSs X st (WSs X st) := ⟨fun pins s _ _ _ I h => h pins s I⟩
theorem wi (tg iter : Expr) : PI X tg iter (WI X tg iter) := ⟨fun pins s _ _ _ I h => h pins s I⟩
end
section
variable {X : Cx} {e : Expr} {es : List Expr} {st : Stmt} {sts : List Stmt} {tg iter : Expr} {σ : L2.St} {H : Hp}
theorem WE.of {t : TE} (h : PE X e t) {Q : VK} (q : t σ H Q) : WE X e σ H Q := fun pins s I => h.run pins s σ H Q I q
theorem WT.of {t : TT} (h : PT X e t) {Q : Bool → Hp → Prop} (q : t σ H Q) : WT X e σ H Q := fun pins s I => h.run pins s σ H Q I q
theorem WW.of {t : TT} (h : PW X e t) {Q : Bool → Hp → Prop} (q : t σ H Q) : WW X e σ H Q := fun wh pins s I => h.run wh pins s σ H Q I q
theorem WA.of {t : TA} (h : PA X es t) {Q : List V → Hp → Prop} (q : t σ H Q) : WA X es σ H Q := fun pos pins s I => h.run pos pins s σ H Q I q
theorem WS.of {t : TS} (h : PS X st t) {D : Ends} (q : t D σ H) : WS X st D σ H := fun pins s I => h.run pins s σ H D I q
theorem WSs.of {t : TS} (h : PSs X sts t) {D : Ends} (q : t D σ H) : WSs X sts D σ H := fun pins s I => h.run pins s σ H D I q
theorem WI.of {t : TI} (h : PI X tg iter t) {R : It → Hp → Prop} (q : t σ H R) : WI X tg iter σ H R := fun pins s I => h.run pins s σ H R I q
theorem WE.mono {Q Q' : VK} (h : WE X e σ H Q) (hq : ∀ v H', Q v H' → Q' v H') : WE X e σ H Q' := fun pins s I =>
  thn (h pins s I) fun u s' ⟨v, H', I', r, q⟩ => ⟨v, H', I', r, hq v H' q⟩
end
/-! ### data -/
inductive D where
  | non | bl (b : Bool) | int (i : Int) | str (x : Str)
  | tup (ds : List D) | rol (ds : List D) | lst (ds : List D)
  | dK (ks : List Key) (ds : List D) | dT (ks : List (List Key)) (ds : List D)
  | cot (ds : List D) | exc (c : Str) (ns : List Str) (ds : List D)
  | opq (v : V)
instance : Inhabited D := ⟨.non⟩
mutual
def D.imm : D → Bool
  | .lst _ => false
  | .dK _ _ => false
  | .dT _ _ => false
  | .tup ds => imms ds
  | .rol ds => imms ds
  | .cot ds => imms ds
  | _ => true
def imms : List D → Bool
  | [] => true
  | d :: ds => d.imm && imms ds
end
/-- a list that is read and never written -/
def RoL (K : PySem.W.Frag) (H : Hp) (a : Addr) (xs : List V) : Prop := (∃ o, H a = some (.frz o (.lst xs))) ∨ SqL K (fun _ => none) a xs
theorem RoL.sq {K : PySem.W.Frag} {H : Hp} {a : Addr} {xs : List V} (h : RoL K H a xs) : SqL K H a xs := by
  rcases h with ⟨o, h⟩ | (h | h)
  · exact .inl (.inr ⟨o, h⟩)
  · rcases h with h | ⟨o, h⟩ <;> cases h
  · exact .inr h
/-- the class of the text that has the name n -/
def clsOf (K : PySem.W.Frag) (n : Str) : Option Addr := match PySem.W.nsIn K mainGlobals n with
  | some (some (.ref C)) => some C
  | _ => none
/-- an exception that was caught, its class, its dict -/
def ExT (cls : Value) (d : Option Addr) (a : Addr) : HO := .ext fun h => ∃ (oe : Obj) (vs : Array Value), h.get? a = some oe ∧ Zc cls d oe ∧ oe.data = .fields vs
mutual
/-- v, in the heap H, is the data d; F: the lists and dicts within it that may be written. o: each of them is one's own -/
def Rep (K : PySem.W.Frag) (H : Hp) (o : Bool) : D → V → List Addr → Prop
  | .non, v, F => v = .non ∧ F = []
  | .bl b, v, F => v = .bl b ∧ F = []
  | .int i, v, F => v = .int i ∧ F = []
  | .str x, v, F => v = .str x ∧ F = []
  | .opq u, v, F => v = u ∧ F = []
  | .tup ds, v, F => ∃ a vs, v = .ref a ∧ H a = some (.tup vs) ∧ Reps K H o ds vs F
  | .cot ds, v, F => ∃ a vs, v = .ref a ∧ SqT K H a vs ∧ Reps K H o ds vs F
  | .exc c ns ds, v, F => F = [] ∧ ∃ (a C : Addr) (d : Option Addr), v = .ref a ∧ clsOf K c = some C ∧ H a = some (ExT (.ref C) d a) ∧
      ((ns = [] ∧ ds = [] ∧ d = none) ∨ ∃ (dd : Addr) (vs : List V), d = some dd ∧ H dd = some (.xd (ns.zip vs)) ∧ imms ds = true ∧ Reps K H o ds vs [])
  | .rol ds, v, F => ∃ a vs, v = .ref a ∧ RoL K H a vs ∧ Reps K H o ds vs F
  | .lst ds, v, F => ∃ a vs G, v = .ref a ∧ Reps K H o ds vs G ∧ H a = some (.lst vs) ∧ F = a :: G
  | .dK ks ds, v, F => ∃ a vs G, v = .ref a ∧ Reps K H o ds vs G ∧ (ks.length = ds.length ∧ ks.Nodup) ∧ ((H a = some (.dK (ks.zip vs)) ∧ F = a :: G) ∨ (o = false ∧ (∃ ob, H a = some (.frz ob (.dK (ks.zip vs)))) ∧ F = G))
  | .dT ks ds, v, F => ∃ a vs G, v = .ref a ∧ Reps K H o ds vs G ∧ (ks.length = ds.length ∧ ks.Nodup) ∧ ((H a = some (.dT (ks.zip vs)) ∧ F = a :: G) ∨ (o = false ∧ (∃ ob, H a = some (.frz ob (.dT (ks.zip vs)))) ∧ F = G))
def Reps (K : PySem.W.Frag) (H : Hp) (o : Bool) : List D → List V → List Addr → Prop
  | [], vs, F => vs = [] ∧ F = []
  | d :: ds, vs, F => ∃ v r G1 G2, vs = v :: r ∧ F = G1 ++ G2 ∧ Rep K H o d v G1 ∧ Reps K H o ds r G2
end
/-- what may be written (by one's own) -/
def Mu : HO → Prop
  | .lst _ => True
  | .dK _ => True
  | .dT _ => True
  | _ => False
/-- tuples and read-only things stay -/
structure Kp (H H' : Hp) : Prop where
  st : ∀ a o, H a = some o → ¬ Mu o → H' a = some o
theorem Kp.tup {H H' : Hp} (k : Kp H H') (a : Addr) (xs : List V) (h : H a = some (.tup xs)) : H' a = some (.tup xs) := k.st a _ h id
theorem Kp.frz {H H' : Hp} (k : Kp H H') (a : Addr) (o : Obj) (u : HO) (h : H a = some (.frz o u)) : H' a = some (.frz o u) := k.st a _ h id
theorem Kp.of {H H' : Hp} (s : Same H H') : Kp H H' := ⟨fun a o h _ => s a _ h⟩
theorem Kp.refl (H : Hp) : Kp H H := ⟨fun _ _ h _ => h⟩
theorem Kp.trans {H H1 H2 : Hp} (a : Kp H H1) (b : Kp H1 H2) : Kp H H2 := ⟨fun x o h m => b.st x o (a.st x o h m) m⟩
theorem Kp.upd {H : Hp} {a : Addr} {o u : HO} (h : H a = some o) (m : Mu o) : Kp H (upd H a u) := by
  refine ⟨fun b p e hm => ?_⟩
  rw [upd_ne]
  · exact e
  · rintro rfl
    rw [h] at e; cases e; exact hm m
section
variable {K : PySem.W.Frag} {H H' : Hp} {a : Addr} {xs : List V}
theorem sqT_kp (k : Kp H H') (h : SqT K H a xs) : SqT K H' a xs := by
  rcases h with (h | ⟨o, h⟩) | h
  · exact .inl (.inl (k.tup _ _ h))
  · exact .inl (.inr ⟨o, k.frz _ _ _ h⟩)
  · exact .inr h
theorem roL_kp (k : Kp H H') (h : RoL K H a xs) : RoL K H' a xs := by
  rcases h with ⟨o, h⟩ | h
  · exact .inl ⟨o, k.frz _ _ _ h⟩
  · exact .inr h
end
section
variable {K : PySem.W.Frag} {H H' : Hp} {o : Bool}
mutual
theorem Rep.kp (k : Kp H H') : ∀ (d : D) (v : V) (F : List Addr), Rep K H o d v F → (∀ a ∈ F, H' a = H a) → Rep K H' o d v F
  | .non, _, _, h, _ => h
  | .bl _, _, _, h, _ => h
  | .int _, _, _, h, _ => h
  | .str _, _, _, h, _ => h
  | .opq _, _, _, h, _ => h
  | .tup ds, v, F, h, e => by
    obtain ⟨a, vs, h1, h2, h3⟩ := h
    exact ⟨a, vs, h1, k.tup _ _ h2, Reps.kp k ds vs F h3 e⟩
  | .cot ds, v, F, h, e => by
    obtain ⟨a, vs, h1, h2, h3⟩ := h
    exact ⟨a, vs, h1, sqT_kp k h2, Reps.kp k ds vs F h3 e⟩
  | .exc c ns ds, v, F, h, e => by
    obtain ⟨hF, a, C, d, h1, h2, h3, h4⟩ := h
    refine ⟨hF, a, C, d, h1, h2, k.st _ _ h3 id, h4.imp id fun ⟨dd, vs, e1, e2, im, e3⟩ => ⟨dd, vs, e1, k.st _ _ e2 id, im, ?_⟩⟩
    exact Reps.kp k ds vs [] e3 fun a ha => by cases ha
  | .lst ds, v, F, h, e => by
    obtain ⟨a, vs, G, h1, h2, h3, h4⟩ := h
    exact ⟨a, vs, G, h1, Reps.kp k ds vs G h2 (fun b hb => e b (by rw [h4]; exact List.mem_cons_of_mem _ hb)), by rw [e a (by rw [h4]; exact List.mem_cons_self)]; exact h3, h4⟩
  | .rol ds, v, F, h, e => by
    obtain ⟨a, vs, h1, h2, h3⟩ := h
    exact ⟨a, vs, h1, roL_kp k h2, Reps.kp k ds vs F h3 e⟩
  | .dK ks ds, v, F, h, e => by
    obtain ⟨a, vs, G, h1, h2, hl, h3⟩ := h
    have hG : ∀ b ∈ G, b ∈ F := fun b hb => by
      rcases h3 with ⟨_, h4⟩ | ⟨_, _, h4⟩
      · rw [h4]; exact List.mem_cons_of_mem _ hb
      · rw [h4]; exact hb
    refine ⟨a, vs, G, h1, Reps.kp k ds vs G h2 (fun b hb => e b (hG b hb)), hl, ?_⟩
    rcases h3 with ⟨h3, h4⟩ | ⟨ho, ⟨ob, h3⟩, h4⟩
    · exact .inl ⟨by rw [e a (by rw [h4]; exact List.mem_cons_self)]; exact h3, h4⟩
    · exact .inr ⟨ho, ⟨ob, k.frz _ _ _ h3⟩, h4⟩
  | .dT ks ds, v, F, h, e => by
    obtain ⟨a, vs, G, h1, h2, hl, h3⟩ := h
    have hG : ∀ b ∈ G, b ∈ F := fun b hb => by
      rcases h3 with ⟨_, h4⟩ | ⟨_, _, h4⟩
      · rw [h4]; exact List.mem_cons_of_mem _ hb
      · rw [h4]; exact hb
    refine ⟨a, vs, G, h1, Reps.kp k ds vs G h2 (fun b hb => e b (hG b hb)), hl, ?_⟩
    rcases h3 with ⟨h3, h4⟩ | ⟨ho, ⟨ob, h3⟩, h4⟩
    · exact .inl ⟨by rw [e a (by rw [h4]; exact List.mem_cons_self)]; exact h3, h4⟩
    · exact .inr ⟨ho, ⟨ob, k.frz _ _ _ h3⟩, h4⟩
theorem Reps.kp (k : Kp H H') : ∀ (ds : List D) (vs : List V) (F : List Addr), Reps K H o ds vs F → (∀ a ∈ F, H' a = H a) → Reps K H' o ds vs F
  | [], _, _, h, _ => h
  | d :: ds, vs, F, h, e => by
    obtain ⟨v, r, G1, G2, h1, h2, h3, h4⟩ := h
    exact ⟨v, r, G1, G2, h1, h2, Rep.kp k d v G1 h3 (fun a ha => e a (by rw [h2]; exact List.mem_append_left _ ha)), Reps.kp k ds r G2 h4 (fun a ha => e a (by rw [h2]; exact List.mem_append_right _ ha))⟩
end
mutual
theorem Rep.tr : ∀ (d : D) (v : V) (F : List Addr), Rep K H o d v F → ∀ a ∈ F, ∃ u, H a = some u ∧ Mu u
  | .non, _, _, h, _, ha => by rw [h.2] at ha; cases ha
  | .bl _, _, _, h, _, ha => by rw [h.2] at ha; cases ha
  | .int _, _, _, h, _, ha => by rw [h.2] at ha; cases ha
  | .str _, _, _, h, _, ha => by rw [h.2] at ha; cases ha
  | .opq _, _, _, h, _, ha => by rw [h.2] at ha; cases ha
  | .tup ds, v, F, h, a, ha => by
    obtain ⟨_, vs, h1, h2, h3⟩ := h
    exact Reps.tr ds vs F h3 a ha
  | .cot ds, v, F, h, a, ha => by
    obtain ⟨_, vs, h1, h2, h3⟩ := h
    exact Reps.tr ds vs F h3 a ha
  | .exc c ns ds, v, F, h, a, ha => by rw [h.1] at ha; cases ha
  | .lst ds, v, F, h, b, hb => by
    obtain ⟨a, vs, G, h1, h2, h3, h4⟩ := h
    rw [h4] at hb
    rcases List.mem_cons.mp hb with rfl | hb
    · exact ⟨_, h3, trivial⟩
    · exact Reps.tr ds vs G h2 b hb
  | .rol ds, v, F, h, a, ha => by
    obtain ⟨_, vs, h1, h2, h3⟩ := h
    exact Reps.tr ds vs F h3 a ha
  | .dK ks ds, v, F, h, b, hb => by
    obtain ⟨a, vs, G, h1, h2, hl, h3⟩ := h
    rcases h3 with ⟨h3, h4⟩ | ⟨_, _, h4⟩
    · rw [h4] at hb
      rcases List.mem_cons.mp hb with rfl | hb
      · exact ⟨_, h3, trivial⟩
      · exact Reps.tr ds vs G h2 b hb
    · rw [h4] at hb
      exact Reps.tr ds vs G h2 b hb
  | .dT ks ds, v, F, h, b, hb => by
    obtain ⟨a, vs, G, h1, h2, hl, h3⟩ := h
    rcases h3 with ⟨h3, h4⟩ | ⟨_, _, h4⟩
    · rw [h4] at hb
      rcases List.mem_cons.mp hb with rfl | hb
      · exact ⟨_, h3, trivial⟩
      · exact Reps.tr ds vs G h2 b hb
    · rw [h4] at hb
      exact Reps.tr ds vs G h2 b hb
theorem Reps.tr : ∀ (ds : List D) (vs : List V) (F : List Addr), Reps K H o ds vs F → ∀ a ∈ F, ∃ u, H a = some u ∧ Mu u
  | [], _, _, h, _, ha => by rw [h.2] at ha; cases ha
  | d :: ds, vs, F, h, a, ha => by
    obtain ⟨v, r, G1, G2, h1, h2, h3, h4⟩ := h
    rw [h2] at ha
    rcases List.mem_append.mp ha with ha | ha
    · exact Rep.tr d v G1 h3 a ha
    · exact Reps.tr ds r G2 h4 a ha
end
theorem Rep.same (s : Same H H') {d : D} {v : V} {F : List Addr} (h : Rep K H o d v F) : Rep K H' o d v F :=
  Rep.kp (Kp.of s) d v F h fun a ha => by
    obtain ⟨u, e, _⟩ := Rep.tr d v F h a ha
    rw [e, s a u e]
theorem Reps.same (s : Same H H') {ds : List D} {vs : List V} {F : List Addr} (h : Reps K H o ds vs F) : Reps K H' o ds vs F :=
  Reps.kp (Kp.of s) ds vs F h fun a ha => by
    obtain ⟨u, e, _⟩ := Reps.tr ds vs F h a ha
    rw [e, s a u e]
mutual
theorem Rep.weak : ∀ (d : D) (v : V) (F : List Addr), Rep K H true d v F → Rep K H o d v F
  | .cot ds, v, F, h => by
    obtain ⟨a, vs, h1, h2, h3⟩ := h
    exact ⟨a, vs, h1, h2, Reps.weak ds vs F h3⟩
  | .exc c ns ds, v, F, h => by
    obtain ⟨hF, a, C, d, h1, h2, h3, h4⟩ := h
    exact ⟨hF, a, C, d, h1, h2, h3, h4.imp id fun ⟨dd, vs, e1, e2, im, e3⟩ => ⟨dd, vs, e1, e2, im, Reps.weak ds vs [] e3⟩⟩
  | .non, _, _, h => h
  | .bl _, _, _, h => h
  | .int _, _, _, h => h
  | .str _, _, _, h => h
  | .opq _, _, _, h => h
  | .tup ds, v, F, h => by
    obtain ⟨a, vs, h1, h2, h3⟩ := h
    exact ⟨a, vs, h1, h2, Reps.weak ds vs F h3⟩
  | .lst ds, v, F, h => by
    obtain ⟨a, vs, G, h1, h2, h3⟩ := h
    exact ⟨a, vs, G, h1, Reps.weak ds vs G h2, h3⟩
  | .rol ds, v, F, h => by
    obtain ⟨a, vs, h1, h2, h3⟩ := h
    exact ⟨a, vs, h1, h2, Reps.weak ds vs F h3⟩
  | .dK ks ds, v, F, h => by
    obtain ⟨a, vs, G, h1, h2, hl, h3⟩ := h
    refine ⟨a, vs, G, h1, Reps.weak ds vs G h2, hl, ?_⟩
    rcases h3 with h3 | ⟨ho, _⟩
    · exact .inl h3
    · cases ho
  | .dT ks ds, v, F, h => by
    obtain ⟨a, vs, G, h1, h2, hl, h3⟩ := h
    refine ⟨a, vs, G, h1, Reps.weak ds vs G h2, hl, ?_⟩
    rcases h3 with h3 | ⟨ho, _⟩
    · exact .inl h3
    · cases ho
theorem Reps.weak : ∀ (ds : List D) (vs : List V) (F : List Addr), Reps K H true ds vs F → Reps K H o ds vs F
  | [], _, _, h => h
  | d :: ds, vs, F, h => by
    obtain ⟨v, r, G1, G2, h1, h2, h3, h4⟩ := h
    exact ⟨v, r, G1, G2, h1, h2, Rep.weak d v G1 h3, Reps.weak ds r G2 h4⟩
end
mutual
theorem Rep.im : ∀ (d : D) (v : V) (F : List Addr), d.imm = true → Rep K H o d v F → F = [] ∧ ∀ o', Rep K H o' d v []
  | .cot ds, v, F, i, h => by
    obtain ⟨a, vs, h1, h2, h3⟩ := h
    obtain ⟨e, q⟩ := Reps.im ds vs F i h3
    exact ⟨e, fun o' => ⟨a, vs, h1, h2, q o'⟩⟩
  | .exc c ns ds, v, F, _, h => by
    obtain ⟨hF, a, C, d, h1, h2, h3, h4⟩ := h
    refine ⟨hF, fun o' => ⟨rfl, a, C, d, h1, h2, h3, h4.imp id fun ⟨dd, vs, e1, e2, im, e3⟩ => ⟨dd, vs, e1, e2, im, (Reps.im ds vs [] im e3).2 o'⟩⟩⟩
  | .non, _, _, _, h => ⟨h.2, fun _ => ⟨h.1, rfl⟩⟩
  | .bl _, _, _, _, h => ⟨h.2, fun _ => ⟨h.1, rfl⟩⟩
  | .int _, _, _, _, h => ⟨h.2, fun _ => ⟨h.1, rfl⟩⟩
  | .str _, _, _, _, h => ⟨h.2, fun _ => ⟨h.1, rfl⟩⟩
  | .opq _, _, _, _, h => ⟨h.2, fun _ => ⟨h.1, rfl⟩⟩
  | .tup ds, v, F, i, h => by
    obtain ⟨a, vs, h1, h2, h3⟩ := h
    obtain ⟨e, q⟩ := Reps.im ds vs F i h3
    exact ⟨e, fun o' => ⟨a, vs, h1, h2, q o'⟩⟩
  | .lst ds, v, F, i, h => by cases i
  | .rol ds, v, F, i, h => by
    obtain ⟨a, vs, h1, h2, h3⟩ := h
    obtain ⟨e, q⟩ := Reps.im ds vs F i h3
    exact ⟨e, fun o' => ⟨a, vs, h1, h2, q o'⟩⟩
  | .dK ks ds, v, F, i, h => by cases i
  | .dT ks ds, v, F, i, h => by cases i
theorem Reps.im : ∀ (ds : List D) (vs : List V) (F : List Addr), imms ds = true → Reps K H o ds vs F → F = [] ∧ ∀ o', Reps K H o' ds vs []
  | [], _, _, _, h => ⟨h.2, fun _ => ⟨h.1, rfl⟩⟩
  | d :: ds, vs, F, i, h => by
    obtain ⟨v, r, G1, G2, h1, h2, h3, h4⟩ := h
    have i' : (d.imm && imms ds) = true := i
    rw [Bool.and_eq_true] at i'
    obtain ⟨e1, q1⟩ := Rep.im d v G1 i'.1 h3
    obtain ⟨e2, q2⟩ := Reps.im ds r G2 i'.2 h4
    exact ⟨by rw [h2, e1, e2]; rfl, fun o' => ⟨v, r, [], [], h1, rfl, q1 o', q2 o'⟩⟩
end
theorem Reps.len : ∀ {ds : List D} {vs : List V} {F : List Addr}, Reps K H o ds vs F → vs.length = ds.length
  | [], _, _, h => by rw [h.1]; rfl
  | d :: ds, vs, F, h => by
    obtain ⟨v, r, G1, G2, h1, h2, h3, h4⟩ := h
    rw [h1, List.length_cons, List.length_cons, Reps.len h4]
theorem Reps.app : ∀ {ds es : List D} {vs ws : List V} {F G : List Addr}, Reps K H o ds vs F → Reps K H o es ws G → Reps K H o (ds ++ es) (vs ++ ws) (F ++ G)
  | [], _, _, _, _, _, h, h' => by rw [h.1, h.2]; exact h'
  | d :: ds, es, vs, ws, F, G, h, h' => by
    obtain ⟨v, r, G1, G2, h1, h2, h3, h4⟩ := h
    exact ⟨v, r ++ ws, G1, G2 ++ G, by rw [h1]; rfl, by rw [h2, List.append_assoc], h3, Reps.app h4 h'⟩
theorem Reps.one {d : D} {v : V} {F : List Addr} (h : Rep K H o d v F) : Reps K H o [d] [v] F := ⟨v, [], F, [], rfl, (List.append_nil _).symm, h, rfl, rfl⟩
/-- the i-th of them -/
theorem Reps.get : ∀ {ds : List D} {vs : List V} {F : List Addr} {i : Nat} {d : D}, Reps K H o ds vs F → ds[i]? = some d → ∃ v G, vs[i]? = some v ∧ Rep K H o d v G ∧ List.Sublist G F
  | [], _, _, _, _, _, e => by simp at e
  | d :: ds, vs, F, 0, d', h, e => by
    obtain ⟨v, r, G1, G2, h1, h2, h3, h4⟩ := h
    have e' : d = d' := by simpa using e
    subst e'
    exact ⟨v, G1, by rw [h1]; rfl, h3, by rw [h2]; exact List.sublist_append_left _ _⟩
  | d :: ds, vs, F, i + 1, d', h, e => by
    obtain ⟨v, r, G1, G2, h1, h2, h3, h4⟩ := h
    obtain ⟨v', G, q1, q2, q3⟩ := Reps.get (i := i) h4 (by simpa using e)
    exact ⟨v', G, by rw [h1]; simpa using q1, q2, by rw [h2]; exact q3.trans (List.sublist_append_right _ _)⟩
end
end DL
set_option maxRecDepth 100000
/-! DL2: the slots' meaning, the judgements over data. -/
namespace DL
open PySem PySem.Spec PyProof.Rows L2
/-- how a slot holds its data: its own (it may be written), shared (read), an argument that is written for the caller -/
inductive Md where
  | own | shr | arg
  deriving DecidableEq
def Md.o : Md → Bool
  | .shr => false
  | _ => true
abbrev Sl := Option (D × Md)
abbrev DEnv := List Sl
/-- what stands still through a def: the entry's heap (without what is written for the caller), the arguments -/
structure Ct where
  P : Hp
  pin : Nat → V
/-- none: it is nobody else's; some R: parts of it may be the slots' R -/
abbrev Kd := Option (List Nat)
/-- the slot i holds d so -/
abbrev Has (ρ : DEnv) (i : Nat) (d : D) (m : Md) : Prop := ρ[i]? = some (some (d, m))
structure EnvOk (K : PySem.W.Frag) (C : Ct) (H : Hp) (ρ : DEnv) (σ : L2.St) (Fs : Nat → List Addr) : Prop where
  len : σ.length = ρ.length
  rep : ∀ i d m, Has ρ i d m → ∃ v, σ[i]? = some (some v) ∧ Rep K H m.o d v (Fs i)
  nd : ∀ i d m, Has ρ i d m → m.o = true → (Fs i).Nodup ∧ ∀ a ∈ Fs i, C.P a = none
  dis : ∀ i j d m e n, i ≠ j → Has ρ i d m → m.o = true → Has ρ j e n → ∀ a ∈ Fs i, a ∉ Fs j
  prot : Same C.P H
  arg : ∀ i d, Has ρ i d .arg → σ[i]? = some (some (C.pin i))
  non : ∀ i, (∀ d m, ¬ Has ρ i d m) → Fs i = []
section
variable {K : PySem.W.Frag} {C : Ct} {H H' : Hp} {ρ : DEnv} {σ : L2.St} {Fs : Nat → List Addr}
theorem EnvOk.same (E : EnvOk K C H ρ σ Fs) (s : Same H H') : EnvOk K C H' ρ σ Fs :=
  ⟨E.len, fun i d m e => let ⟨v, h1, h2⟩ := E.rep i d m e; ⟨v, h1, h2.same s⟩, E.nd, E.dis, E.prot.trans s, E.arg, E.non⟩
/-- what stands still may be said to be less -/
theorem EnvOk.less {P' : Hp} (E : EnvOk K C H ρ σ Fs) (s : Same P' C.P) : EnvOk K ⟨P', C.pin⟩ H ρ σ Fs :=
  ⟨E.len, E.rep, fun i d m e o => ⟨(E.nd i d m e o).1, fun a ha => s.free ((E.nd i d m e o).2 a ha)⟩, E.dis, s.trans E.prot, E.arg, E.non⟩
theorem EnvOk.trA (E : EnvOk K C H ρ σ Fs) {i : Nat} {a : Addr} (ha : a ∈ Fs i) : ∃ u, H a = some u ∧ Mu u := by
  by_cases h : ∃ d m, Has ρ i d m
  · obtain ⟨d, m, h⟩ := h
    obtain ⟨v, _, r⟩ := E.rep i d m h
    exact Rep.tr d v _ r a ha
  · rw [E.non i fun d m z => h ⟨d, m, z⟩] at ha
    cases ha
theorem EnvOk.tr (E : EnvOk K C H ρ σ Fs) {i : Nat} {d : D} {m : Md} (e : Has ρ i d m) {a : Addr} (ha : a ∈ Fs i) : ∃ u, H a = some u ∧ Mu u := by
  obtain ⟨v, _, r⟩ := E.rep i d m e
  exact Rep.tr d v _ r a ha
/-- a slot is stored -/
theorem EnvOk.put (E : EnvOk K C H ρ σ Fs) {i : Nat} {d : D} {m : Md} {v : V} {F : List Addr} (hi : i < ρ.length) (hm : m ≠ .arg) (r : Rep K H m.o d v F)
    (ho : m.o = true → F.Nodup ∧ (∀ a ∈ F, C.P a = none) ∧ ∀ j e n, j ≠ i → Has ρ j e n → ∀ a ∈ F, a ∉ Fs j)
    (hs : ∀ j e n, j ≠ i → Has ρ j e n → n.o = true → ∀ a ∈ F, a ∉ Fs j) :
    EnvOk K C H (ρ.set i (some (d, m))) (σ.set i (some v)) (fun j => if j = i then F else Fs j) := by
  have hσ : i < σ.length := by rw [E.len]; exact hi
  have get : ∀ {j : Nat} {e : D} {n : Md}, (ρ.set i (some (d, m)))[j]? = some (some (e, n)) → (j = i ∧ e = d ∧ n = m) ∨ (j ≠ i ∧ Has ρ j e n) := fun {j e n} h => by
    by_cases hj : j = i
    · subst hj
      rw [List.getElem?_set_self hi] at h
      cases h
      exact .inl ⟨rfl, rfl, rfl⟩
    · rw [List.getElem?_set_ne (Ne.symm hj)] at h
      exact .inr ⟨hj, h⟩
  refine ⟨by simp [E.len], fun j e n h => ?_, fun j e n h o => ?_, fun j l e n f q hjl h o h' => ?_, E.prot, fun j e h => ?_, fun j h => ?_⟩
  · rcases get h with ⟨rfl, rfl, rfl⟩ | ⟨hj, h⟩
    · exact ⟨v, List.getElem?_set_self hσ, by simpa using r⟩
    · obtain ⟨w, h1, h2⟩ := E.rep j e n h
      exact ⟨w, by rw [List.getElem?_set_ne (Ne.symm hj)]; exact h1, by simpa [hj] using h2⟩
  · rcases get h with ⟨rfl, rfl, rfl⟩ | ⟨hj, h⟩
    · simp only [if_true]
      exact ⟨(ho o).1, (ho o).2.1⟩
    · simp only [hj, if_false]
      exact E.nd j e n h o
  · rcases get h with ⟨rfl, rfl, rfl⟩ | ⟨hj, hr⟩
    · rcases get h' with ⟨rfl, _⟩ | ⟨hl, hr'⟩
      · exact absurd rfl hjl
      · simp only [if_true, hl, if_false]
        exact (ho o).2.2 l f q hl hr'
    · rcases get h' with ⟨rfl, rfl, rfl⟩ | ⟨hl, hr'⟩
      · simp only [if_true, hj, if_false]
        exact fun a ha hb => hs j e n hj hr o a hb ha
      · simp only [hj, hl, if_false]
        exact E.dis j l e n f q hjl hr o hr'
  · rcases get h with ⟨rfl, rfl, e⟩ | ⟨hj, h⟩
    · exact absurd e.symm hm
    · rw [List.getElem?_set_ne (Ne.symm hj)]
      exact E.arg j e h
  · by_cases hj : j = i
    · subst hj
      exact absurd (List.getElem?_set_self hi) (h d m)
    · simp only [hj, if_false]
      refine E.non j fun e n z => h e n ?_
      show (ρ.set i (some (d, m)))[j]? = _
      rw [List.getElem?_set_ne (Ne.symm hj)]
      exact z
end
/-- the slots R are shared from here on -/
def frz (R : List Nat) : Nat → DEnv → Option DEnv
  | _, [] => some []
  | n, x :: r => match frz R (n + 1) r with
    | none => none
    | some r' => if R.contains n then (match x with
        | some (d, .own) => some (some (d, .shr) :: r')
        | some (_, .arg) => none
        | y => some (y :: r')) else some (x :: r')
theorem frz_spec {R : List Nat} : ∀ {ρ ρ' : DEnv} {n : Nat}, frz R n ρ = some ρ' → ρ'.length = ρ.length ∧ (∀ i d m, Has ρ' i d m →
    ∃ m0, Has ρ i d m0 ∧ (m.o = true → m0 = m) ∧ (m = .arg → m0 = .arg) ∧ (m.o = true → (i + n) ∉ R)) ∧ (∀ i d m, Has ρ i d m → ∃ m', Has ρ' i d m')
  | [], ρ', n, h => by
    have e : ρ' = [] := by simpa [frz] using h.symm
    subst e
    exact ⟨rfl, fun i d m h => by simp [Has] at h, fun i d m h => by simp [Has] at h⟩
  | x :: r, ρ', n, h => by
    unfold frz at h
    cases hr : frz R (n + 1) r with
    | none => rw [hr] at h; cases h
    | some r' =>
      rw [hr] at h
      obtain ⟨il, ig, inn⟩ := frz_spec hr
      have tail : ∀ (y : Sl), ρ' = y :: r' → (∀ d m, y = some (d, m) → ∃ m0, x = some (d, m0) ∧ (m.o = true → m0 = m) ∧ (m = .arg → m0 = .arg) ∧ (m.o = true → n ∉ R)) → (∀ d m, x = some (d, m) → ∃ m', y = some (d, m')) →
          ρ'.length = (x :: r).length ∧ (∀ i d m, Has ρ' i d m → ∃ m0, Has (x :: r) i d m0 ∧ (m.o = true → m0 = m) ∧ (m = .arg → m0 = .arg) ∧ (m.o = true → (i + n) ∉ R)) ∧ (∀ i d m, Has (x :: r) i d m → ∃ m', Has ρ' i d m') := by
        rintro y rfl hy hyn
        refine ⟨by simp [il], fun i d m h => ?_, fun i d m h => ?_⟩
        · cases i with
          | zero =>
            have e : y = some (d, m) := by simpa [Has] using h
            obtain ⟨m0, e0, q⟩ := hy d m e
            exact ⟨m0, by simp [Has, e0], by simpa [Has] using q⟩
          | succ i =>
            obtain ⟨m0, e0, q1, q2, q3⟩ := ig i d m (by simpa [Has] using h)
            exact ⟨m0, by simpa [Has] using e0, q1, q2, fun o => by rw [show i + 1 + n = i + (n + 1) by omega]; exact q3 o⟩
        · cases i with
          | zero =>
            have e : x = some (d, m) := by simpa [Has] using h
            obtain ⟨m', e'⟩ := hyn d m e
            exact ⟨m', by simp [Has, e']⟩
          | succ i => simpa [Has] using inn i d m (by simpa [Has] using h)
      by_cases hR : R.contains n = true
      · simp only [hR, if_true] at h
        cases x with
        | none =>
          exact tail none (by simpa [Has] using h.symm) (fun d m e => by cases e) (fun d m e => by cases e)
        | some p =>
          obtain ⟨d, m⟩ := p
          cases m with
          | own =>
            refine tail (some (d, .shr)) (by simpa [Has] using h.symm) (fun d' m' e => ?_) (fun d' m' e => by cases e; exact ⟨_, rfl⟩)
            cases e
            exact ⟨.own, rfl, (fun e => by cases e), (fun e => by cases e), fun e => by cases e⟩
          | shr =>
            refine tail (some (d, .shr)) (by simpa [Has] using h.symm) (fun d' m' e => ?_) (fun d' m' e => by cases e; exact ⟨_, rfl⟩)
            cases e
            exact ⟨.shr, rfl, (fun e => by cases e), (fun e => by cases e), fun e => by cases e⟩
          | arg => simp at h
      · simp only [hR] at h
        refine tail x (by simpa [Has] using h.symm) (fun d m e => ?_) (fun d m e => ⟨m, e⟩)
        exact ⟨m, e, fun _ => rfl, fun e => e, fun _ hm => hR (by simpa [Has] using hm)⟩
theorem EnvOk.frz {K : PySem.W.Frag} {C : Ct} {H : Hp} {ρ ρ' : DEnv} {σ : L2.St} {Fs : Nat → List Addr} {R : List Nat} (E : EnvOk K C H ρ σ Fs) (h : frz R 0 ρ = some ρ') : EnvOk K C H ρ' σ Fs := by
  obtain ⟨hl, hg, hk⟩ := frz_spec h
  refine ⟨by rw [hl]; exact E.len, fun i d m e => ?_, fun i d m e o => ?_, fun i j d m f n hij e o e' => ?_, E.prot, fun i d e => ?_, fun i q => E.non i fun d m z => let ⟨m', z'⟩ := hk i d m z; q d m' z'⟩
  · obtain ⟨m0, e0, q1, q2, _⟩ := hg i d m e
    obtain ⟨v, h1, h2⟩ := E.rep i d m0 e0
    refine ⟨v, h1, ?_⟩
    cases hm : m.o with
    | true => rw [← hm, ← q1 hm]; exact h2
    | false =>
      cases hm0 : m0.o with
      | true => rw [hm0] at h2; exact Rep.weak d v _ h2
      | false => rw [hm0] at h2; exact h2
  · obtain ⟨m0, e0, q1, q2, _⟩ := hg i d m e
    exact E.nd i d m0 e0 (by rw [q1 o]; exact o)
  · obtain ⟨m0, e0, q1, q2, _⟩ := hg i d m e
    obtain ⟨n0, e0', _⟩ := hg j f n e'
    exact E.dis i j d m0 f n0 hij e0 (by rw [q1 o]; exact o) e0'
  · obtain ⟨m0, e0, q1, q2, _⟩ := hg i d _ e
    rw [q2 rfl] at e0
    exact E.arg i d e0
/-! ### a value that has come: its kind k, its data d; H0: the heap ahead of it -/
def RepR (K : PySem.W.Frag) (H0 H : Hp) (Fs : Nat → List Addr) (k : Kd) (d : D) (v : V) (F : List Addr) : Prop := match k with
  | none => Rep K H true d v F ∧ F.Nodup ∧ ∀ a ∈ F, H0 a = none
  | some R => Rep K H false d v F ∧ ∀ a ∈ F, H0 a = none ∨ ∃ i ∈ R, a ∈ Fs i
section
variable {K : PySem.W.Frag} {H0 H H' : Hp} {Fs : Nat → List Addr} {k : Kd} {d : D} {v : V} {F : List Addr}
theorem RepR.rep (r : RepR K H0 H Fs k d v F) : Rep K H false d v F := by
  cases k with
  | none => exact Rep.weak d v F r.1
  | some R => exact r.1
theorem RepR.same (r : RepR K H0 H Fs k d v F) (s : Same H H') : RepR K H0 H' Fs k d v F := by
  cases k with
  | none => exact ⟨r.1.same s, r.2⟩
  | some R => exact ⟨r.1.same s, r.2⟩
theorem RepR.back {H1 : Hp} (r : RepR K H1 H Fs k d v F) (s : Same H0 H1) : RepR K H0 H Fs k d v F := by
  cases k with
  | none => exact ⟨r.1, r.2.1, fun a ha => s.free (r.2.2 a ha)⟩
  | some R => exact ⟨r.1, fun a ha => (r.2 a ha).imp (fun z => s.free z) id⟩
/-- what holds nothing that may be written is nobody's -/
theorem RepR.im (r : RepR K H0 H Fs k d v F) (i : d.imm = true) : F = [] ∧ Rep K H true d v [] := by
  obtain ⟨e, q⟩ := Rep.im d v F i r.rep
  exact ⟨e, q true⟩
theorem RepR.of_im (i : d.imm = true) (r : Rep K H true d v []) : RepR K H0 H Fs k d v [] := by
  cases k with
  | none => exact ⟨r, List.nodup_nil, fun a ha => by cases ha⟩
  | some R => exact ⟨Rep.weak d v _ r, fun a ha => by cases ha⟩
end
/-- what an exception is: its class, its own names -/
structure Xn where
  cls : Str
  fs : List (Str × D)
/-- what a statement comes to -/
inductive Out where
  | nx (ρ : DEnv) | ct (ρ : DEnv) | bk (ρ : DEnv) | rt (d : D) (ρ : DEnv) | ex (x : Xn) (ρ : DEnv) | bad
/-- what an expression comes to that may write and raise -/
inductive EO where
  | ok (d : D) (k : Kd) (ρ : DEnv) | ex (x : Xn) (ρ : DEnv) | bad
abbrev SE := DEnv → Option (D × Kd)
abbrev ST := DEnv → Option Bool
abbrev SA := DEnv → Option (List (D × Kd))
abbrev SX := DEnv → EO
abbrev SS := DEnv → Out
/-- the exception's names, as the heap bears them -/
def XRep (K : PySem.W.Frag) (H : Hp) (x : Xn) (cls : Value) (d : Option Addr) : Prop :=
  ∃ C : Addr, clsOf K x.cls = some C ∧ cls = .ref C ∧ ((x.fs = [] ∧ d = none) ∨ ∃ (dd : Addr) (vs : List V), d = some dd ∧ H dd = some (.xd ((x.fs.map (·.1)).zip vs)) ∧ imms (x.fs.map (·.2)) = true ∧ Reps K H true (x.fs.map (·.2)) vs [])
/-- a value in hand, by the slots as they stand -/
def RepV (K : PySem.W.Frag) (C : Ct) (ρ : DEnv) (Fs : Nat → List Addr) (H : Hp) (k : Kd) (d : D) (v : V) (F : List Addr) : Prop := match k with
  | none => Rep K H true d v F ∧ F.Nodup ∧ ∀ a ∈ F, C.P a = none ∧ ∀ i e n, Has ρ i e n → a ∉ Fs i
  | some R => Rep K H false d v F ∧ ∀ a ∈ F, ∀ i e n, Has ρ i e n → n.o = true → i ∉ R → a ∉ Fs i
/-- an expression's effects leave the shared slots alone -/
def Shr (ρ : DEnv) (Fs : Nat → List Addr) (ρ' : DEnv) (Fs' : Nat → List Addr) : Prop := ∀ i d, Has ρ' i d .shr → Has ρ i d .shr ∧ Fs' i = Fs i
theorem Shr.refl {ρ : DEnv} {Fs : Nat → List Addr} : Shr ρ Fs ρ Fs := fun _ _ h => ⟨h, rfl⟩
theorem Shr.trans {ρ ρ' ρ'' : DEnv} {Fs Fs' Fs'' : Nat → List Addr} (a : Shr ρ Fs ρ' Fs') (b : Shr ρ' Fs' ρ'' Fs'') : Shr ρ Fs ρ'' Fs'' := fun i d h =>
  let ⟨h1, e1⟩ := b i d h
  let ⟨h2, e2⟩ := a i d h1
  ⟨h2, e1.trans e2⟩
def OutOk (K : PySem.W.Frag) (C : Ct) (E : Ends) (W : WX) : Out → Prop
  | .nx ρ => ∀ H σ Fs, EnvOk K C H ρ σ Fs → E.nx σ H
  | .ct ρ => ∀ H σ Fs, EnvOk K C H ρ σ Fs → E.ct σ H
  | .bk ρ => ∀ H σ Fs, EnvOk K C H ρ σ Fs → E.bk σ H
  | .rt d ρ => ∀ H σ Fs v F, EnvOk K C H ρ σ Fs → Rep K H true d v F → F.Nodup → (∀ a ∈ F, C.P a = none ∧ ∀ i e, Has ρ i e .arg → a ∉ Fs i) → E.rt v H
  | .ex x ρ => ∀ H σ Fs cls d, EnvOk K C H ρ σ Fs → XRep K H x cls d → W cls d σ H
  | .bad => False
/-- an expression that writes nothing and raises nothing -/
structure PP (X : Cx) (e : Expr) (s : SE) : Prop where
  run : ∀ (C : Ct) (ρ : DEnv) (σ : L2.St) (H : Hp) (Fs : Nat → List Addr) (d : D) (k : Kd) (Q : VK), EnvOk X.K C H ρ σ Fs → s ρ = some (d, k) → (∀ v H' F, Same H H' → RepR X.K H H' Fs k d v F → Q v H') → WE X e σ H Q
structure PPT (X : Cx) (e : Expr) (s : ST) : Prop where
  run : ∀ (C : Ct) (ρ : DEnv) (σ : L2.St) (H : Hp) (Fs : Nat → List Addr) (b : Bool) (Q : Bool → Hp → Prop), EnvOk X.K C H ρ σ Fs → s ρ = some b → (∀ H', Same H H' → Q b H') → WT X e σ H Q
structure PPW (X : Cx) (e : Expr) (s : ST) : Prop where
  run : ∀ (C : Ct) (ρ : DEnv) (σ : L2.St) (H : Hp) (Fs : Nat → List Addr) (b : Bool) (Q : Bool → Hp → Prop), EnvOk X.K C H ρ σ Fs → s ρ = some b → (∀ H', Same H H' → Q b H') → WW X e σ H Q
/-- arguments: each with its kind; those that are nobody's lie apart from all others -/
def RepRs (K : PySem.W.Frag) (H0 H : Hp) (Fs : Nat → List Addr) : List (D × Kd) → List V → List (List Addr) → Prop
  | [], vs, Gs => vs = [] ∧ Gs = []
  | (d, k) :: r, vs, Gs => ∃ v ws F Ls, vs = v :: ws ∧ Gs = F :: Ls ∧ RepR K H0 H Fs k d v F ∧ RepRs K H0 H Fs r ws Ls ∧ (k = none → ∀ G ∈ Ls, ∀ a ∈ F, a ∉ G) ∧ (∀ a ∈ F, ∀ (i : Nat) (q : D × Kd) (G : List Addr), r[i]? = some q → q.2 = none → Ls[i]? = some G → a ∉ G)
structure PPA (X : Cx) (es : List Expr) (s : SA) : Prop where
  run : ∀ (C : Ct) (ρ : DEnv) (σ : L2.St) (H : Hp) (Fs : Nat → List Addr) (ds : List (D × Kd)) (Q : List V → Hp → Prop), EnvOk X.K C H ρ σ Fs → s ρ = some ds → (∀ vs H' Gs, Same H H' → RepRs X.K H H' Fs ds vs Gs → Q vs H') → WA X es σ H Q
/-- an expression that may write what is its slots' own, and raise -/
structure PX (X : Cx) (e : Expr) (s : SX) : Prop where
  run : ∀ (C : Ct) (W : WX) (ρ : DEnv) (σ : L2.St) (H : Hp) (Fs : Nat → List Addr) (Q : VK), Takes X W → EnvOk X.K C H ρ σ Fs → (match s ρ with
    | .ok d k ρ' => ∀ v H' F Fs', EnvOk X.K C H' ρ' σ Fs' → Shr ρ Fs ρ' Fs' → RepV X.K C ρ' Fs' H' k d v F → Q v H'
    | .ex x ρ' => ∀ H' Fs' cls dd, EnvOk X.K C H' ρ' σ Fs' → XRep X.K H' x cls dd → W cls dd σ H'
    | .bad => False) → WE X e σ H Q
structure PSd (X : Cx) (st : Stmt) (s : SS) : Prop where
  run : ∀ (C : Ct) (W : WX) (E : Ends) (ρ : DEnv) (σ : L2.St) (H : Hp) (Fs : Nat → List Addr), Takes X W → EnvOk X.K C H ρ σ Fs → OutOk X.K C E W (s ρ) → WS X st E σ H
structure PSsd (X : Cx) (st : List Stmt) (s : SS) : Prop where
  run : ∀ (C : Ct) (W : WX) (E : Ends) (ρ : DEnv) (σ : L2.St) (H : Hp) (Fs : Nat → List Addr), Takes X W → EnvOk X.K C H ρ σ Fs → OutOk X.K C E W (s ρ) → WSs X st E σ H
end DL
set_option maxRecDepth 100000
/-! DL3: expressions that write nothing. -/
noncomputable section DLsec3
namespace DL
open PySem PySem.Spec PyProof.Rows L2
section
variable {X : Cx} {C : Ct} {ρ : DEnv} {σ : L2.St} {H : Hp} {Fs : Nat → List Addr} {a b : Expr} {sa sb : SE} {pos : Pos}
/-- the kind of a part: what holds nothing that may be written is nobody's -/
def kd (d : D) (k : Kd) : Kd := if d.imm = true then none else k
theorem RepR.kd {K : PySem.W.Frag} {H0 : Hp} {k : Kd} {d : D} {v : V} {F : List Addr} (r : RepR K H0 H Fs k d v F) : ∃ G, RepR K H0 H Fs (DL.kd d k) d v G := by
  unfold DL.kd
  by_cases i : d.imm = true
  · rw [if_pos i]
    exact ⟨[], RepR.of_im i (r.im i).2⟩
  · rw [if_neg i]
    exact ⟨F, r⟩
/-! ### names, constants -/
def sV (i : Nat) : SE := fun ρ => match ρ[i]? with
  | some (some (d, _)) => some (d, kd d (some [i]))
  | _ => none
theorem dv (i : Nat) {x : Str} {pos : Pos} (hN : X.N[i]? = some x := by rfl) (hv : Vis X.env.scope x := by first | exact Or.inl rfl | exact Or.inr (Or.inl rfl) | exact Or.inr (Or.inr rfl)) (hd : (x == ("__debug__" : Str)) = false := by decide)
    (hcd : (x == ("__classdict__" : Str)) = false := by decide) : PP X (.Name x pos) (sV i) := by
  refine ⟨fun C ρ σ H Fs d k Q E h q => ?_⟩
  unfold sV at h
  cases e : ρ[i]? with
  | none => rw [e] at h; cases h
  | some w =>
    rw [e] at h
    cases w with
    | none => cases h
    | some p =>
      obtain ⟨d', m⟩ := p
      have h : some (d', DL.kd d' (some [i])) = some (d, k) := h
      obtain ⟨rfl, rfl⟩ := Prod.mk.inj (Option.some.inj h)
      obtain ⟨v, hv', r⟩ := E.rep i d' m e
      refine WE.of (pe_var hN hv hd hcd) ⟨v, hv', ?_⟩
      have r2 : RepR X.K H H Fs (some [i]) d' v (Fs i) := by
        refine ⟨?_, fun a ha => .inr ⟨i, by simp, ha⟩⟩
        cases hm : m.o with
        | true => rw [hm] at r; exact Rep.weak d' v _ r
        | false => rw [hm] at r; exact r
      obtain ⟨G, r3⟩ := r2.kd
      exact q v H G (Same.refl H) r3
def sC (d : D) : SE := fun _ => some (d, none)
theorem pp_const {e : Expr} {d : D} {v : V} (h : PE X e (tC v)) (r : ∀ H, Rep X.K H true d v []) : PP X e (sC d) := by
  refine ⟨fun C ρ σ H Fs d' k Q E hs q => ?_⟩
  obtain ⟨rfl, rfl⟩ := Prod.mk.inj (Option.some.inj (show some (d, none) = some (d', k) from hs))
  exact WE.of h (q v H [] (Same.refl H) ⟨r H, List.nodup_nil, fun a ha => by cases ha⟩)
theorem dInt {i : Int} {j pos} : PP X (.Constant (.int i) j pos) (sC (.int i)) := pp_const pe_int fun _ => ⟨rfl, rfl⟩
theorem dBl {b : Bool} {j pos} : PP X (.Constant (.bool b) j pos) (sC (.bl b)) := pp_const pe_bl fun _ => ⟨rfl, rfl⟩
theorem dNon {j pos} : PP X (.Constant .none j pos) (sC .non) := pp_const pe_non fun _ => ⟨rfl, rfl⟩
theorem dStr {x : Str} {j pos} : PP X (.Constant (.str x) j pos) (sC (.str x)) := pp_const pe_str fun _ => ⟨rfl, rfl⟩
/-- a module's constant -/
theorem dGlob {x : Str} {v : V} {u : Value} {d : D} {pos : Pos} (hg : Gl X x) (hm : X.mg x = some u) (rv : RelV v u) (r : ∀ H, Rep X.K H true d v []) (hd : (x == ("__debug__" : Str)) = false := by decide) : PP X (.Name x pos) (sC d) :=
  pp_const (pe_glob hg hm rv hd) r
/-! ### two in a row -/
theorem two (ha : PP X a sa) (hb : PP X b sb) (E : EnvOk X.K C H ρ σ Fs) {x y : D} {kx ky : Kd} (h1 : sa ρ = some (x, kx)) (h2 : sb ρ = some (y, ky)) {R : V → V → Hp → Prop}
    (h : ∀ v u H' F G, Same H H' → RepR X.K H H' Fs kx x v F → RepR X.K H H' Fs ky y u G → (kx = none ∨ ky = none → ∀ a ∈ F, a ∉ G) → R v u H') : WE X a σ H fun v H1 => WE X b σ H1 fun u H2 => R v u H2 := by
  refine ha.run C ρ σ H Fs x kx _ E h1 fun v H1 F s1 r1 => hb.run C ρ σ H1 Fs y ky _ (E.same s1) h2 fun u H2 G s2 r2 => ?_
  refine h v u H2 F G (s1.trans s2) (r1.same s2) (r2.back s1) fun hk c hc hg => ?_
  have t1 : ∃ z, H1 c = some z ∧ Mu z := Rep.tr x v F r1.rep c hc
  obtain ⟨z, ez, _⟩ := t1
  cases ky with
  | none =>
    have := r2.2.2 c hg
    rw [ez] at this; cases this
  | some R2 =>
    rcases r2.2 c hg with n | ⟨i, _, hi⟩
    · rw [ez] at n; cases n
    · obtain ⟨z', ez', _⟩ := E.trA hi
      rcases hk with rfl | hk
      · have := r1.2.2 c hc
        rw [ez'] at this; cases this
      · cases hk
/-! ### operators -/
/-- an operator's meaning on data, its value holding nothing that may be written -/
def OpD (X : Cx) (g : Value → Value → Sem Value) (f : D → D → Option D) : Prop :=
  ∃ r : R2, OpR X g r ∧ ∀ x y z, f x y = some z → z.imm = true ∧ ∀ (H : Hp) (v u : V) (F G : List Addr) (Q : VK), Rep X.K H false x v F → Rep X.K H false y u G → (∀ w H', Same H H' → Rep X.K H' true z w [] → Q w H') → r v u H Q
def sOp (f : D → D → Option D) (sa sb : SE) : SE := fun ρ => match sa ρ, sb ρ with
  | some (x, _), some (y, _) => match f x y with
    | some z => some (z, none)
    | none => none
  | _, _ => none
theorem sOp_some {f : D → D → Option D} {d : D} {k : Kd} (h : sOp f sa sb ρ = some (d, k)) : ∃ x kx y ky, sa ρ = some (x, kx) ∧ sb ρ = some (y, ky) ∧ f x y = some d ∧ k = none := by
  unfold sOp at h
  cases h1 : sa ρ with
  | none => rw [h1] at h; cases h
  | some p =>
    cases h2 : sb ρ with
    | none => rw [h1, h2] at h; cases h
    | some q =>
      rw [h1, h2] at h
      obtain ⟨x, kx⟩ := p
      obtain ⟨y, ky⟩ := q
      cases h3 : f x y with
      | none => simp only [h3] at h; cases h
      | some z =>
        simp only [h3] at h
        cases h
        exact ⟨x, kx, y, ky, rfl, rfl, h3, rfl⟩
theorem dOp {op : Operator} {f : D → D → Option D} (o : OpD X (binaryOp op) f) (ha : PP X a sa) (hb : PP X b sb) : PP X (.BinOp a op b pos) (sOp f sa sb) := by
  obtain ⟨r, hr, hf⟩ := o
  refine ⟨fun C ρ σ H Fs d k Q E h q => ?_⟩
  obtain ⟨x, kx, y, ky, h1, h2, h3, rfl⟩ := sOp_some h
  obtain ⟨im, go⟩ := hf x y d h3
  refine WE.of (pe_op hr (we X a) (we X b)) (two ha hb E h1 h2 fun v u H' F G s r1 r2 _ => ?_)
  exact go H' v u F G Q r1.rep r2.rep fun w H2 s2 rw => q w H2 [] (s.trans s2) (RepR.of_im im rw)
theorem dCmp {op : CmpOp} {f : D → D → Option D} (o : OpD X (compareOp op) f) (ha : PP X a sa) (hb : PP X b sb) (hm : behindInMarks op b = false := by first | exact nomark _ (by decide) (by decide) | rfl) : PP X (.Compare a [op] [b] pos) (sOp f sa sb) := by
  obtain ⟨r, hr, hf⟩ := o
  refine ⟨fun C ρ σ H Fs d k Q E h q => ?_⟩
  obtain ⟨x, kx, y, ky, h1, h2, h3, rfl⟩ := sOp_some h
  obtain ⟨im, go⟩ := hf x y d h3
  refine WE.of (pe_cmpR hr (we X a) (we X b) hm) (two ha hb E h1 h2 fun v u H' F G s r1 r2 _ => ?_)
  exact go H' v u F G Q r1.rep r2.rep fun w H2 s2 rw => q w H2 [] (s.trans s2) (RepR.of_im im rw)
/-- .. as a test -/
def sT (s : SE) : ST := fun ρ => match s ρ with
  | some (.bl b, _) => some b
  | _ => none
theorem sT_some {s : SE} {b : Bool} (h : sT s ρ = some b) : ∃ k, s ρ = some (.bl b, k) := by
  unfold sT at h
  cases e : s ρ with
  | none => rw [e] at h; cases h
  | some p =>
    obtain ⟨d, k⟩ := p
    rw [e] at h
    cases d <;> first
      | (cases h; exact ⟨k, rfl⟩)
      | cases h
theorem tCmp {op : CmpOp} {f : D → D → Option D} (o : OpD X (compareOp op) f) (ha : PP X a sa) (hb : PP X b sb) (hm : behindInMarks op b = false := by first | exact nomark _ (by decide) (by decide) | rfl) : PPT X (.Compare a [op] [b] pos) (sT (sOp f sa sb)) := by
  obtain ⟨r, hr, hf⟩ := o
  refine ⟨fun C ρ σ H Fs b' Q E h q => ?_⟩
  obtain ⟨k, h⟩ := sT_some h
  obtain ⟨x, kx, y, ky, h1, h2, h3, rfl⟩ := sOp_some h
  obtain ⟨im, go⟩ := hf x y _ h3
  refine WT.of (pt_cmpR hr (we X a) (we X b) hm) (two ha hb E h1 h2 fun v u H' F G s r1 r2 _ => ?_)
  exact go H' v u F G _ r1.rep r2.rep fun w H2 s2 rw => ⟨b', rw.1, q H2 (s.trans s2)⟩
/-- any expression whose value is True or False, as a test -/
theorem tVal {e : Expr} {s : SE} (h : PP X e s) (he : ∀ whole, isTrue e X.env whole = (do let v ← whole; standAt e.pos; holding [v] (truthy v)) := by intro _; rfl) : PPT X e (sT s) := by
  refine ⟨fun C ρ σ H Fs b Q E hs q => ?_⟩
  obtain ⟨k, hs⟩ := sT_some hs
  refine WT.of (pt_val (we X e) he) (h.run C ρ σ H Fs _ k _ E hs fun v H' F s1 r1 => ⟨b, ?_, q H' s1⟩)
  have := r1.rep
  exact this.1
theorem sNot_ {P : Prop} : P → P := id
def tNotS (s : ST) : ST := fun ρ => (s ρ).map (!·)
theorem tNot {s : ST} (h : PPT X a s) : PPT X (.UnaryOp .Not a pos) (tNotS s) := by
  refine ⟨fun C ρ σ H Fs b Q E hs q => ?_⟩
  unfold tNotS at hs
  cases e : s ρ with
  | none => rw [e] at hs; cases hs
  | some c =>
    rw [e] at hs
    cases hs
    exact WT.of (pt_not (wt X a)) (h.run C ρ σ H Fs c _ E e fun H' s1 => q H' s1)
/-- and, or, of tests -/
def tAndS (s t : ST) : ST := fun ρ => match s ρ with
  | some true => t ρ
  | some false => some false
  | none => none
def tOrS (s t : ST) : ST := fun ρ => match s ρ with
  | some true => some true
  | some false => t ρ
  | none => none
variable {rest : List Expr} {s t : ST}
theorem wAnd1 (ha : PPT X a s) : PPW X (.BoolOp .And [a] pos) s :=
  ⟨fun C ρ σ H Fs b Q E hs q => WW.of (pw_and1 (wt X a)) (ha.run C ρ σ H Fs b _ E hs q)⟩
theorem wOr1 (ha : PPT X a s) : PPW X (.BoolOp .Or [a] pos) s :=
  ⟨fun C ρ σ H Fs b Q E hs q => WW.of (pw_or1 (wt X a)) (ha.run C ρ σ H Fs b _ E hs q)⟩
theorem wAnd (ha : PPT X a s) (hb : PPW X (.BoolOp .And (b :: rest) pos) t) : PPW X (.BoolOp .And (a :: b :: rest) pos) (tAndS s t) := by
  refine ⟨fun C ρ σ H Fs c Q E hs q => WW.of (pw_and (wt X a) (ww X _)) ?_⟩
  unfold tAndS at hs
  cases e : s ρ with
  | none => rw [e] at hs; cases hs
  | some c1 =>
    rw [e] at hs
    cases c1 with
    | true => exact ha.run C ρ σ H Fs true _ E e fun H' s1 => iteT (hb.run C ρ σ H' Fs c _ (E.same s1) hs fun H2 s2 => q H2 (s1.trans s2))
    | false => cases hs; exact ha.run C ρ σ H Fs false _ E e fun H' s1 => iteF (q H' s1)
theorem wOr (ha : PPT X a s) (hb : PPW X (.BoolOp .Or (b :: rest) pos) t) : PPW X (.BoolOp .Or (a :: b :: rest) pos) (tOrS s t) := by
  refine ⟨fun C ρ σ H Fs c Q E hs q => WW.of (pw_or (wt X a) (ww X _)) ?_⟩
  unfold tOrS at hs
  cases e : s ρ with
  | none => rw [e] at hs; cases hs
  | some c1 =>
    rw [e] at hs
    cases c1 with
    | false => exact ha.run C ρ σ H Fs false _ E e fun H' s1 => iteF (hb.run C ρ σ H' Fs c _ (E.same s1) hs fun H2 s2 => q H2 (s1.trans s2))
    | true => cases hs; exact ha.run C ρ σ H Fs true _ E e fun H' s1 => iteT (q H' s1)
theorem PPW.pt {e : Expr} (h : PPW X e s) : PPT X e s := ⟨fun C ρ σ H Fs b Q E hs q => WT.of (PW.pt (ww X e)) (h.run C ρ σ H Fs b Q E hs q)⟩
/-- and, or, not, of values True, False -/
def sAnd (s t : SE) : SE := fun ρ => match s ρ with
  | some (.bl true, _) => t ρ
  | some (.bl false, _) => some (.bl false, none)
  | _ => none
def sOr (s t : SE) : SE := fun ρ => match s ρ with
  | some (.bl true, _) => some (.bl true, none)
  | some (.bl false, _) => t ρ
  | _ => none
def sNot (s : SE) : SE := fun ρ => match s ρ with
  | some (.bl b, _) => some (.bl (!b), none)
  | _ => none
theorem dOne {op} {s : SE} (h : PP X a s) : PP X (.BoolOp op [a] pos) s := ⟨fun C ρ σ H Fs d k Q E hs q => WE.of (pe_one (we X a)) (h.run C ρ σ H Fs d k Q E hs q)⟩
theorem dAnd {s t : SE} (ha : PP X a s) (hb : PP X (.BoolOp .And (b :: rest) pos) t) : PP X (.BoolOp .And (a :: b :: rest) pos) (sAnd s t) := by
  refine ⟨fun C ρ σ H Fs d k Q E hs q => WE.of (pe_and (we X a) (we X _)) ?_⟩
  unfold sAnd at hs
  cases e : s ρ with
  | none => rw [e] at hs; cases hs
  | some p =>
    obtain ⟨x, kx⟩ := p
    rw [e] at hs
    cases x with
    | bl c =>
      cases c with
      | true => exact ha.run C ρ σ H Fs _ _ _ E e fun v H' F s1 r1 => ⟨true, r1.rep.1, iteT (hb.run C ρ σ H' Fs d k _ (E.same s1) hs fun w H2 G s2 r2 => q w H2 G (s1.trans s2) (r2.back s1))⟩
      | false =>
        cases hs
        exact ha.run C ρ σ H Fs _ _ _ E e fun v H' F s1 r1 => ⟨false, r1.rep.1, iteF (q _ H' [] s1 ⟨⟨rfl, rfl⟩, List.nodup_nil, fun a ha => by cases ha⟩)⟩
    | _ => cases hs
theorem dOr {s t : SE} (ha : PP X a s) (hb : PP X (.BoolOp .Or (b :: rest) pos) t) : PP X (.BoolOp .Or (a :: b :: rest) pos) (sOr s t) := by
  refine ⟨fun C ρ σ H Fs d k Q E hs q => WE.of (pe_or (we X a) (we X _)) ?_⟩
  unfold sOr at hs
  cases e : s ρ with
  | none => rw [e] at hs; cases hs
  | some p =>
    obtain ⟨x, kx⟩ := p
    rw [e] at hs
    cases x with
    | bl c =>
      cases c with
      | false => exact ha.run C ρ σ H Fs _ _ _ E e fun v H' F s1 r1 => ⟨false, r1.rep.1, iteF (hb.run C ρ σ H' Fs d k _ (E.same s1) hs fun w H2 G s2 r2 => q w H2 G (s1.trans s2) (r2.back s1))⟩
      | true =>
        cases hs
        exact ha.run C ρ σ H Fs _ _ _ E e fun v H' F s1 r1 => ⟨true, r1.rep.1, iteT (q _ H' [] s1 ⟨⟨rfl, rfl⟩, List.nodup_nil, fun a ha => by cases ha⟩)⟩
    | _ => cases hs
theorem dNot {s : SE} (h : PP X a s) : PP X (.UnaryOp .Not a pos) (sNot s) := by
  refine ⟨fun C ρ σ H Fs d k Q E hs q => WE.of (pe_not (we X a)) ?_⟩
  unfold sNot at hs
  cases e : s ρ with
  | none => rw [e] at hs; cases hs
  | some p =>
    obtain ⟨x, kx⟩ := p
    rw [e] at hs
    cases x with
    | bl c =>
      cases hs
      exact h.run C ρ σ H Fs _ _ _ E e fun v H' F s1 r1 => ⟨c, r1.rep.1, q _ H' [] s1 ⟨⟨rfl, rfl⟩, List.nodup_nil, fun a ha => by cases ha⟩⟩
    | _ => cases hs
/-- a if t else b -/
def sIf (t : ST) (sa sb : SE) : SE := fun ρ => match t ρ with
  | some true => sa ρ
  | some false => sb ρ
  | none => none
theorem dIf {c : Expr} (hc : PPT X c s) (ha : PP X a sa) (hb : PP X b sb) : PP X (.IfExp c a b pos) (sIf s sa sb) := by
  refine ⟨fun C ρ σ H Fs d k Q E hs q => WE.of (pe_ifExp (wt X c) (we X a) (we X b)) ?_⟩
  unfold sIf at hs
  cases e : s ρ with
  | none => rw [e] at hs; cases hs
  | some c1 =>
    rw [e] at hs
    cases c1 with
    | true => exact hc.run C ρ σ H Fs true _ E e fun H' s1 => iteT (ha.run C ρ σ H' Fs d k _ (E.same s1) hs fun w H2 G s2 r2 => q w H2 G (s1.trans s2) (r2.back s1))
    | false => exact hc.run C ρ σ H Fs false _ E e fun H' s1 => iteF (hb.run C ρ σ H' Fs d k _ (E.same s1) hs fun w H2 G s2 r2 => q w H2 G (s1.trans s2) (r2.back s1))
end
/-! ### the operators on numbers and texts -/
section
variable {X : Cx}
/-- two ints under c -/
def fI (c : Int → Int → Bool) (g : Int → Int → D) : D → D → Option D
  | .int i, .int j => if c i j = true then some (g i j) else none
  | _, _ => none
theorem fI_some {c : Int → Int → Bool} {g : Int → Int → D} {x y z : D} (h : fI c g x y = some z) : ∃ i j, x = .int i ∧ y = .int j ∧ c i j = true ∧ z = g i j := by
  cases x <;> cases y <;> simp only [fI, reduceCtorEq] at h
  rename_i i j
  by_cases hc : c i j = true
  · rw [if_pos hc] at h
    cases h
    exact ⟨i, j, rfl, rfl, hc, rfl⟩
  · rw [if_neg hc] at h
    cases h
theorem odI {op : Value → Value → Sem Value} {c : Int → Int → Bool} {P : Int → Int → Prop} {g : Int → Int → Int} (hr : OpR X op (rI P fun i j => .int (g i j))) (hc : ∀ i j, c i j = true → P i j) : OpD X op (fI c fun i j => .int (g i j)) := by
  refine ⟨_, hr, fun x y z h => ?_⟩
  obtain ⟨i, j, rfl, rfl, h1, rfl⟩ := fI_some h
  exact ⟨rfl, fun H v u F G Q r1 r2 q => ⟨i, j, r1.1, r2.1, hc i j h1, q _ H (Same.refl H) ⟨rfl, rfl⟩⟩⟩
theorem odI0 {op : Value → Value → Sem Value} {g : Int → Int → Int} (hr : OpR X op (rI0 fun i j => .int (g i j))) : OpD X op (fI (fun _ _ => true) fun i j => .int (g i j)) := by
  refine ⟨_, hr, fun x y z h => ?_⟩
  obtain ⟨i, j, rfl, rfl, h1, rfl⟩ := fI_some h
  exact ⟨rfl, fun H v u F G Q r1 r2 q => ⟨i, j, r1.1, r2.1, q _ H (Same.refl H) ⟨rfl, rfl⟩⟩⟩
theorem odB0 {op : Value → Value → Sem Value} {g : Int → Int → Prop} [∀ i j, Decidable (g i j)] (hr : OpR X op (rI0 fun i j => .bl (decide (g i j)))) : OpD X op (fI (fun _ _ => true) fun i j => .bl (okP (g i j))) := by
  refine ⟨_, hr, fun x y z h => ?_⟩
  obtain ⟨i, j, rfl, rfl, h1, rfl⟩ := fI_some h
  exact ⟨rfl, fun H v u F G Q r1 r2 q => ⟨i, j, r1.1, r2.1, q _ H (Same.refl H) ⟨by rw [okP_eq], rfl⟩⟩⟩
abbrev fAdd := fI (fun _ _ => true) fun i j => .int (i + j)
abbrev fSub := fI (fun _ _ => true) fun i j => .int (i - j)
def mulOk (i j : Int) : Bool := okP ((Builtin.Int.intBits i : Int) + (Builtin.Int.intBits j : Int) ≤ 134217728)
abbrev fMul := fI mulOk fun i j => .int (i * j)
def divOk (_ j : Int) : Bool := okP (0 < j ∧ j.natAbs.log2 < 9000)
abbrev fDiv := fI divOk fun i j => .int (i / j)
def modOk (_ j : Int) : Bool := okP (0 < j)
abbrev fMod := fI modOk fun i j => .int (i % j)
def powOk (i j : Int) : Bool := okP (0 ≤ j ∧ j ≤ 1000000 ∧ i.natAbs < 2 ^ 64)
abbrev fPow := fI powOk fun i j => .int (i ^ j.toNat)
theorem oAdd : OpD X (binaryOp .Add) fAdd := odI0 op_add
theorem oSub : OpD X (binaryOp .Sub) fSub := odI0 op_sub
theorem oMul : OpD X (binaryOp .Mult) fMul := odI op_mulX fun i j h => show CMulX i j from (okP_iff (p := ((Builtin.Int.intBits i : Int) + (Builtin.Int.intBits j : Int) ≤ 134217728))).mp h
theorem oDiv : OpD X (binaryOp .FloorDiv) fDiv := odI op_fdivW fun i j h => show CDivW i j from (okP_iff (p := (0 < j ∧ j.natAbs.log2 < 9000))).mp h
theorem oMod : OpD X (binaryOp .Mod) fMod := odI op_mod fun i j h => (okP_iff (p := (0 < j))).mp h
theorem oPow : OpD X (binaryOp .Pow) fPow := odI op_pow fun i j h => show CPow i j from (okP_iff (p := (0 ≤ j ∧ j ≤ 1000000 ∧ i.natAbs < 2 ^ 64))).mp h
abbrev fLt := fI (fun _ _ => true) fun i j => .bl (okP (i < j))
abbrev fLe := fI (fun _ _ => true) fun i j => .bl (okP (i ≤ j))
abbrev fGt := fI (fun _ _ => true) fun i j => .bl (okP (j < i))
abbrev fGe := fI (fun _ _ => true) fun i j => .bl (okP (j ≤ i))
theorem oLt : OpD X (compareOp .Lt) fLt := odB0 op_lt
theorem oLe : OpD X (compareOp .LtE) fLe := odB0 op_le
theorem oGt : OpD X (compareOp .Gt) fGt := odB0 op_gt
theorem oGe : OpD X (compareOp .GtE) fGe := odB0 op_ge
/-- texts -/
def fCat : D → D → Option D
  | .str x, .str y => if okP (x.length + y.length ≤ sizeLine) = true then some (.str (x ++ y)) else none
  | _, _ => none
theorem oCat : OpD X (binaryOp .Add) fCat := by
  refine ⟨_, op_add_str, fun x y z h => ?_⟩
  cases x <;> cases y <;> simp only [fCat, reduceCtorEq] at h
  split at h
  · rename_i hc
    cases h
    exact ⟨rfl, fun H v u F G Q r1 r2 q => ⟨_, _, r1.1, r2.1, okP_iff.mp hc, q _ H (Same.refl H) ⟨rfl, rfl⟩⟩⟩
  · cases h
/-- a text n times -/
theorem op_mul_str : OpR X (binaryOp .Mult) (fun x y H Q => ∃ z n, x = .str z ∧ y = .int n ∧ MulOk z n ∧ Q (.str (Txt.mul z n)) H) := by
  intro pins s σ H x y v u Q I rx ry h
  obtain ⟨z, n, rfl, rfl, hm, q⟩ := h
  obtain ⟨t, rfl⟩ := rx
  obtain ⟨t', rfl⟩ := ry
  exact PySem.SB.mul hm fun t' k => ⟨.str _, H, I.tok _, ⟨_, rfl⟩, q⟩
/-- n times a text, n small -/
def timesS (z : Str) (n : Int) : Str := ⟨(List.replicate n.toNat z.cps.toList).flatten.toArray⟩
theorem foldl_app : ∀ (l : List (Array Nat)) (acc : Array Nat), (l.foldl (· ++ ·) acc).toList = acc.toList ++ (l.map Array.toList).flatten
  | [], acc => by simp
  | x :: r, acc => by
    rw [List.foldl_cons, foldl_app r (acc ++ x)]
    simp
theorem mul_times (z : Str) (n : Int) (h : -(2 ^ 62) < n) (h2 : n < 2 ^ 24) (h3 : z.length < 2 ^ 24) (h4 : z.length * n.toNat ≤ sizeLine) : MulOk z n ∧ Txt.mul z n = timesS z n := by
  have hs : sizeLine = 16777216 := sizeLine_eq
  refine ⟨⟨?_, fun h1 _ => ?_, fun h1 _ => ?_⟩, ?_⟩
  · simp only [Bool.or_eq_false_iff, decide_eq_false_iff_not]
    omega
  · have hq : n * ((2 ^ 63 - 1) / n) ≥ (2 ^ 63 - 1) - n := by
      have e1 := Int.mul_ediv_add_emod (2 ^ 63 - 1) n
      have e2 := Int.emod_lt_of_pos (2 ^ 63 - 1) (show 0 < n by omega)
      omega
    have hz : ((2 ^ 63 - 1 : Int) / n) ≥ 2 ^ 24 := by
      refine Int.le_of_not_gt fun hlt => ?_
      have : n * ((2 ^ 63 - 1) / n) ≤ n * (2 ^ 24) := Int.mul_le_mul_of_nonneg_left (by omega) (by omega)
      omega
    omega
  · have : ¬ (z.length * n.toNat > sizeLine) := by omega
    exact decide_eq_false this
  · unfold Txt.mul timesS
    by_cases h1 : n < 1
    · rw [if_pos h1]
      have : n.toNat = 0 := by omega
      rw [this]
      rfl
    · rw [if_neg h1]
      by_cases hc : (n == 1 || z.length == 0) = true
      · rw [if_pos hc]
        rw [Bool.or_eq_true] at hc
        rcases hc with hc | hc
        · have : n = 1 := by simpa using hc
          subst this
          cases z with
          | mk cps => simp
        · have e : z.cps.toList = [] := by
            have : z.cps.size = 0 := by
              have h0 : z.length = 0 := by simpa using hc
              exact h0
            simpa using this
          cases z with
          | mk cps =>
            have e2 : cps = #[] := by simpa using e
            subst e2
            simp
      · rw [if_neg hc]
        congr 1
        apply Array.toList_inj.mp
        rw [foldl_app]
        simp
def fRepS : D → D → Option D
  | .str z, .int n => if okP (-(2 ^ 62) < n ∧ n < 2 ^ 24 ∧ z.length < 2 ^ 24 ∧ z.length * n.toNat ≤ sizeLine) = true then some (.str (timesS z n)) else none
  | _, _ => none
theorem oRepS : OpD X (binaryOp .Mult) fRepS := by
  refine ⟨_, op_mul_str, fun x y z h => ?_⟩
  cases x <;> cases y <;> simp only [fRepS, reduceCtorEq] at h
  rename_i zz n
  split at h
  · rename_i hc0
    have hc := okP_iff.mp hc0
    cases h
    obtain ⟨m1, m2⟩ := mul_times zz n hc.1 hc.2.1 hc.2.2.1 hc.2.2.2
    exact ⟨rfl, fun H v u F G Q r1 r2 q => ⟨_, _, r1.1, r2.1, m1, q _ H (Same.refl H) ⟨by rw [m2], rfl⟩⟩⟩
  · cases h
/-! ### scalars -/
def D.sc : D → Option V
  | .non => some .non
  | .bl b => some (.bl b)
  | .int i => some (.int i)
  | .str x => some (.str x)
  | _ => none
theorem sc_rep {K : PySem.W.Frag} {H : Hp} {o : Bool} {d : D} {v w : V} {F : List Addr} (h : d.sc = some w) (r : Rep K H o d v F) : v = w := by
  cases d <;> first
    | (cases h; exact r.1)
    | cases h
theorem sc_flat {d : D} {w : V} (h : d.sc = some w) : flatV w = true := by
  cases d <;> first
    | (cases h; rfl)
    | cases h
def fCmp (c : V → V → Bool) (g : V → V → Bool) : D → D → Option D := fun x y => match x.sc, y.sc with
  | some v, some u => if c v u = true then some (.bl (g v u)) else none
  | _, _ => none
theorem fCmp_some {c g : V → V → Bool} {x y z : D} (h : fCmp c g x y = some z) : ∃ v u, x.sc = some v ∧ y.sc = some u ∧ c v u = true ∧ z = .bl (g v u) := by
  unfold fCmp at h
  split at h
  · split at h
    · cases h; exact ⟨_, _, by assumption, by assumption, by assumption, rfl⟩
    · cases h
  · cases h
abbrev fEq : D → D → Option D := fCmp scal fun v u => okP (v = u)
abbrev fNe : D → D → Option D := fCmp scal fun v u => !okP (v = u)
theorem oEq : OpD X (compareOp .Eq) fEq := by
  refine ⟨_, op_eq, fun x y z h => ?_⟩
  obtain ⟨v, u, h1, h2, h3, rfl⟩ := fCmp_some h
  exact ⟨rfl, fun H v' u' F G Q r1 r2 q => by rw [sc_rep h1 r1, sc_rep h2 r2]; exact ⟨h3, q _ H (Same.refl H) ⟨by rw [okP_eq], rfl⟩⟩⟩
theorem oNe : OpD X (compareOp .NotEq) fNe := by
  refine ⟨_, op_ne, fun x y z h => ?_⟩
  obtain ⟨v, u, h1, h2, h3, rfl⟩ := fCmp_some h
  exact ⟨rfl, fun H v' u' F G Q r1 r2 q => by rw [sc_rep h1 r1, sc_rep h2 r2]; exact ⟨h3, q _ H (Same.refl H) ⟨by rw [okP_eq], rfl⟩⟩⟩
/-- is None: of anything -/
def D.isNon : D → Bool
  | .non => true
  | _ => false
theorem isNon_rep {K : PySem.W.Frag} {H : Hp} {o : Bool} {d : D} {v : V} {F : List Addr} (ho : ∀ u, d = .opq u → u ≠ .non) (r : Rep K H o d v F) : decide (v = .non) = d.isNon := by
  cases d with
  | non => rw [r.1]; rfl
  | bl _ => rw [r.1]; rfl
  | int _ => rw [r.1]; rfl
  | str _ => rw [r.1]; rfl
  | opq u =>
    rw [r.1]
    exact decide_eq_false (ho u rfl)
  | tup _ => obtain ⟨a, vs, rfl, _⟩ := r; rfl
  | cot _ => obtain ⟨a, vs, rfl, _⟩ := r; rfl
  | exc _ _ _ => obtain ⟨_, a, C, d, rfl, _⟩ := r; rfl
  | rol _ => obtain ⟨a, vs, rfl, _⟩ := r; rfl
  | lst _ => obtain ⟨a, vs, G, rfl, _⟩ := r; rfl
  | dK _ _ => obtain ⟨a, vs, G, rfl, _⟩ := r; rfl
  | dT _ _ => obtain ⟨a, vs, G, rfl, _⟩ := r; rfl
def fIs (neg : Bool) : D → D → Option D
  | .opq _, _ => none
  | x, .non => some (.bl (if neg then !x.isNon else x.isNon))
  | _, _ => none
theorem fIs_some {neg : Bool} {x y z : D} (h : fIs neg x y = some z) : (∀ u, x = .opq u → u ≠ .non) ∧ y = .non ∧ z = .bl (if neg then !x.isNon else x.isNon) := by
  cases x <;> cases y <;> simp only [fIs, reduceCtorEq] at h
  all_goals exact ⟨fun u e => (by cases e), rfl, (Option.some.inj h).symm⟩
theorem oIs : OpD X (compareOp .Is) (fIs false) := by
  refine ⟨_, op_isN, fun x y z h => ?_⟩
  obtain ⟨h1, rfl, rfl⟩ := fIs_some h
  exact ⟨rfl, fun H v u F G Q r1 r2 q => ⟨r2.1, q _ H (Same.refl H) ⟨by rw [isNon_rep h1 r1]; rfl, rfl⟩⟩⟩
theorem oIsNot : OpD X (compareOp .IsNot) (fIs true) := by
  refine ⟨_, op_notN, fun x y z h => ?_⟩
  obtain ⟨h1, rfl, rfl⟩ := fIs_some h
  exact ⟨rfl, fun H v u F G Q r1 r2 q => ⟨r2.1, q _ H (Same.refl H) ⟨by rw [isNon_rep h1 r1]; rfl, rfl⟩⟩⟩
/-- x in a list or tuple of scalars -/
def scs : List D → Option (List V)
  | [] => some []
  | d :: r => match d.sc, scs r with
    | some v, some vs => some (v :: vs)
    | _, _ => none
theorem scs_rep {K : PySem.W.Frag} {H : Hp} {o : Bool} : ∀ {ds : List D} {vs ws : List V} {F : List Addr}, scs ds = some ws → Reps K H o ds vs F → vs = ws
  | [], vs, ws, F, h, r => by cases h; exact r.1
  | d :: ds, vs, ws, F, h, r => by
    obtain ⟨v, r', G1, G2, h1, h2, h3, h4⟩ := r
    unfold scs at h
    split at h
    · cases h
      rw [h1, sc_rep (by assumption) h3, scs_rep (by assumption) h4]
    · cases h
theorem scs_flat : ∀ {ds : List D} {ws : List V}, scs ds = some ws → ws.all flatV = true
  | [], ws, h => by cases h; rfl
  | d :: ds, ws, h => by
    unfold scs at h
    split at h
    · cases h
      rw [List.all_cons, sc_flat (by assumption), scs_flat (by assumption)]
      rfl
    · cases h
def fIn (neg : Bool) : D → D → Option D := fun x y => match y with
  | .lst ds => match x.sc, scs ds with
    | some v, some ws => some (.bl (if neg then !inV v ws else inV v ws))
    | _, _ => none
  | .tup ds => match x.sc, scs ds with
    | some v, some ws => some (.bl (if neg then !inV v ws else inV v ws))
    | _, _ => none
  | .cot ds => match x.sc, scs ds with
    | some v, some ws => some (.bl (if neg then !inV v ws else inV v ws))
    | _, _ => none
  | _ => none
theorem od_in {neg : Bool} {op : CmpOp} (hr : OpR X (compareOp op) (rIn X.K neg)) : OpD X (compareOp op) (fIn neg) := by
  refine ⟨_, hr, fun x y z h => ?_⟩
  unfold fIn at h
  split at h
  · split at h
    · rename_i h1 h2
      cases h
      refine ⟨rfl, fun H v u F G Q r1 r2 q => ?_⟩
      obtain ⟨a, vs, G', rfl, r2, hl⟩ := r2
      rw [sc_rep h1 r1]
      have e := scs_rep h2 r2
      subst e
      exact ⟨a, _, rfl, .inl (SqL.of hl.1), sc_flat h1, scs_flat h2, q _ H (Same.refl H) ⟨rfl, rfl⟩⟩
    · cases h
  · split at h
    · rename_i h1 h2
      cases h
      refine ⟨rfl, fun H v u F G Q r1 r2 q => ?_⟩
      obtain ⟨a, vs, rfl, hl, r2⟩ := r2
      rw [sc_rep h1 r1]
      have e := scs_rep h2 r2
      subst e
      exact ⟨a, _, rfl, .inr (SqT.of hl), sc_flat h1, scs_flat h2, q _ H (Same.refl H) ⟨rfl, rfl⟩⟩
    · cases h
  · split at h
    · rename_i h1 h2
      cases h
      refine ⟨rfl, fun H v u F G Q r1 r2 q => ?_⟩
      obtain ⟨a, vs, rfl, hl, r2⟩ := r2
      rw [sc_rep h1 r1]
      have e := scs_rep h2 r2
      subst e
      exact ⟨a, _, rfl, .inr hl, sc_flat h1, scs_flat h2, q _ H (Same.refl H) ⟨rfl, rfl⟩⟩
    · cases h
  · cases h
theorem oIn : OpD X (compareOp .In) (fIn false) := od_in op_in_seq
theorem oNotIn : OpD X (compareOp .NotIn) (fIn true) := od_in op_notIn_seq
/-- one sign in a text -/
def sign1 (x : Str) : Option Nat := match x.cps.toList with
  | [c] => some c
  | _ => none
theorem sign1_eq {x : Str} {c : Nat} (h : sign1 x = some c) : x = ⟨#[c]⟩ := by
  unfold sign1 at h
  split at h
  · rename_i e
    cases h
    cases x with
    | mk cps =>
      congr 1
      exact Array.toList_inj.mp (by simpa using e)
  · cases h
def fInS (neg : Bool) : D → D → Option D
  | .str x, .str z => match sign1 x with
    | some c => some (.bl (if neg then !okP (c ∈ z.cps.toList) else okP (c ∈ z.cps.toList)))
    | none => none
  | _, _ => none
theorem fInS_some {neg : Bool} {x y z : D} (h : fInS neg x y = some z) : ∃ c w, x = .str ⟨#[c]⟩ ∧ y = .str w ∧ z = .bl (if neg then !okP (c ∈ w.cps.toList) else okP (c ∈ w.cps.toList)) := by
  cases x <;> cases y <;> simp only [fInS, reduceCtorEq] at h
  split at h
  · rename_i e
    cases h
    exact ⟨_, _, by rw [sign1_eq e], rfl, rfl⟩
  · cases h
theorem oInS : OpD X (compareOp .In) (fInS false) := by
  refine ⟨_, op_in_sign, fun x y z h => ?_⟩
  obtain ⟨c, w, rfl, rfl, rfl⟩ := fInS_some h
  exact ⟨rfl, fun H v u F G Q r1 r2 q => ⟨c, w, r1.1, r2.1, q _ H (Same.refl H) ⟨by rw [okP_eq]; rfl, rfl⟩⟩⟩
theorem oNotInS : OpD X (compareOp .NotIn) (fInS true) := by
  refine ⟨_, op_notIn_sign, fun x y z h => ?_⟩
  obtain ⟨c, w, rfl, rfl, rfl⟩ := fInS_some h
  exact ⟨rfl, fun H v u F G Q r1 r2 q => ⟨c, w, r1.1, r2.1, q _ H (Same.refl H) ⟨by rw [okP_eq]; rfl, rfl⟩⟩⟩
end
end DL
end DLsec3
set_option maxRecDepth 100000
/-! DL4: lists, tuples, texts as values; arguments; built-ins. -/
noncomputable section DLsec4
namespace DL
open PySem PySem.Spec PyProof.Rows L2
/-! ### several at once -/
def RepsR (K : PySem.W.Frag) (H0 H : Hp) (Fs : Nat → List Addr) (k : Kd) (ds : List D) (vs : List V) (F : List Addr) : Prop := match k with
  | none => Reps K H true ds vs F ∧ F.Nodup ∧ ∀ a ∈ F, H0 a = none
  | some R => Reps K H false ds vs F ∧ ∀ a ∈ F, H0 a = none ∨ ∃ i ∈ R, a ∈ Fs i
def kj : Kd → Kd → Kd
  | none, none => none
  | none, some S => some S
  | some R, none => some R
  | some R, some S => some (R ++ S)
def kds (ds : List D) (k : Kd) : Kd := if imms ds = true then none else k
section
variable {K : PySem.W.Frag} {H0 H H' : Hp} {Fs : Nat → List Addr} {k k' : Kd} {d : D} {ds es : List D} {v : V} {vs ws : List V} {F G : List Addr}
theorem RepsR.rep (r : RepsR K H0 H Fs k ds vs F) : Reps K H false ds vs F := by
  cases k with
  | none => exact Reps.weak ds vs F r.1
  | some R => exact r.1
theorem RepsR.same (r : RepsR K H0 H Fs k ds vs F) (s : Same H H') : RepsR K H0 H' Fs k ds vs F := by
  cases k with
  | none => exact ⟨r.1.same s, r.2⟩
  | some R => exact ⟨r.1.same s, r.2⟩
theorem RepsR.of_im (i : imms ds = true) (r : Reps K H false ds vs F) : RepsR K H0 H Fs k ds vs [] := by
  obtain ⟨_, q⟩ := Reps.im ds vs F i r
  cases k with
  | none => exact ⟨q true, List.nodup_nil, fun a ha => by cases ha⟩
  | some R => exact ⟨q false, fun a ha => by cases ha⟩
theorem RepsR.kds (r : RepsR K H0 H Fs k ds vs F) : ∃ G, RepsR K H0 H Fs (kds ds k) ds vs G := by
  unfold DL.kds
  by_cases i : imms ds = true
  · rw [if_pos i]
    exact ⟨[], RepsR.of_im i r.rep⟩
  · rw [if_neg i]
    exact ⟨F, r⟩
theorem RepsR.len (r : RepsR K H0 H Fs k ds vs F) : vs.length = ds.length := Reps.len r.rep
theorem RepsR.get (r : RepsR K H0 H Fs k ds vs F) {i : Nat} (e : ds[i]? = some d) : ∃ v G, vs[i]? = some v ∧ RepR K H0 H Fs k d v G := by
  cases k with
  | none =>
    obtain ⟨v, G, h1, h2, h3⟩ := Reps.get r.1 e
    exact ⟨v, G, h1, h2, h3.nodup r.2.1, fun a ha => r.2.2 a (h3.subset ha)⟩
  | some R =>
    obtain ⟨v, G, h1, h2, h3⟩ := Reps.get r.1 e
    exact ⟨v, G, h1, h2, fun a ha => r.2 a (h3.subset ha)⟩
theorem RepsR.up (r : RepsR K H0 H Fs k ds vs F) (k2 : Kd) : RepsR K H0 H Fs (kj k k2) ds vs F := by
  cases k with
  | none =>
    cases k2 with
    | none => exact r
    | some S => exact ⟨Reps.weak ds vs F r.1, fun a ha => .inl (r.2.2 a ha)⟩
  | some R =>
    cases k2 with
    | none => exact r
    | some S => exact ⟨r.1, fun a ha => (r.2 a ha).imp id fun ⟨i, hi, h⟩ => ⟨i, List.mem_append_left _ hi, h⟩⟩
theorem RepsR.up' (r : RepsR K H0 H Fs k ds vs F) (k2 : Kd) : RepsR K H0 H Fs (kj k2 k) ds vs F := by
  cases k with
  | none =>
    cases k2 with
    | none => exact r
    | some S => exact ⟨Reps.weak ds vs F r.1, fun a ha => .inl (r.2.2 a ha)⟩
  | some R =>
    cases k2 with
    | none => exact r
    | some S => exact ⟨r.1, fun a ha => (r.2 a ha).imp id fun ⟨i, hi, h⟩ => ⟨i, List.mem_append_right _ hi, h⟩⟩
theorem RepsR.app (r : RepsR K H0 H Fs k ds vs F) (r' : RepsR K H0 H Fs k' es ws G) (dj : k = none → k' = none → ∀ a ∈ F, a ∉ G) : RepsR K H0 H Fs (kj k k') (ds ++ es) (vs ++ ws) (F ++ G) := by
  have h1 := r.up k'
  have h2 := r'.up' k
  cases e : kj k k' with
  | none =>
    rw [e] at h1 h2
    have ek : k = none ∧ k' = none := by
      cases k <;> cases k' <;> simp [kj] at e ⊢
    refine ⟨Reps.app h1.1 h2.1, ?_, fun a ha => ?_⟩
    · rw [List.nodup_append]
      exact ⟨h1.2.1, h2.2.1, fun a ha b hb e => dj ek.1 ek.2 a ha (e ▸ hb)⟩
    · rcases List.mem_append.mp ha with ha | ha
      · exact h1.2.2 a ha
      · exact h2.2.2 a ha
  | some R =>
    rw [e] at h1 h2
    refine ⟨Reps.app h1.1 h2.1, fun a ha => ?_⟩
    rcases List.mem_append.mp ha with ha | ha
    · exact h1.2 a ha
    · exact h2.2 a ha
theorem RepsR.nil : RepsR K H0 H Fs none [] [] [] := ⟨⟨rfl, rfl⟩, List.nodup_nil, fun a ha => by cases ha⟩
theorem RepsR.cons (r : RepR K H0 H Fs k d v F) (r' : RepsR K H0 H Fs k' es ws G) (dj : k = none → k' = none → ∀ a ∈ F, a ∉ G) : RepsR K H0 H Fs (kj k k') (d :: es) (v :: ws) (F ++ G) := by
  have h : RepsR K H0 H Fs k [d] [v] F := by
    cases k with
    | none => exact ⟨Reps.one r.1, r.2⟩
    | some R => exact ⟨Reps.one r.1, r.2⟩
  exact h.app r' dj
/-- a list, a tuple opened -/
theorem RepR.lst (r : RepR K H0 H Fs k (.lst ds) v F) : ∃ a vs G, v = .ref a ∧ H a = some (.lst vs) ∧ F = a :: G ∧ RepsR K H0 H Fs k ds vs G := by
  cases k with
  | none =>
    obtain ⟨⟨a, vs, G, h1, h2, h3, rfl⟩, nd, fr⟩ := r
    exact ⟨a, vs, G, h1, h3, rfl, h2, (List.nodup_cons.mp nd).2, fun b hb => fr b (List.mem_cons_of_mem _ hb)⟩
  | some R =>
    obtain ⟨⟨a, vs, G, h1, h2, h3, rfl⟩, fr⟩ := r
    exact ⟨a, vs, G, h1, h3, rfl, h2, fun b hb => fr b (List.mem_cons_of_mem _ hb)⟩
theorem RepR.rol (r : RepR K H0 H Fs k (.rol ds) v F) : ∃ a vs, v = .ref a ∧ SqL K H a vs ∧ RepsR K H0 H Fs k ds vs F := by
  cases k with
  | none =>
    obtain ⟨⟨a, vs, h1, h2, h3⟩, nd, fr⟩ := r
    exact ⟨a, vs, h1, h2.sq, h3, nd, fr⟩
  | some R =>
    obtain ⟨⟨a, vs, h1, h2, h3⟩, fr⟩ := r
    exact ⟨a, vs, h1, h2.sq, h3, fr⟩
theorem RepR.tup (r : RepR K H0 H Fs k (.tup ds) v F) : ∃ a vs, v = .ref a ∧ H a = some (.tup vs) ∧ RepsR K H0 H Fs k ds vs F := by
  cases k with
  | none =>
    obtain ⟨⟨a, vs, h1, h2, h3⟩, nd, fr⟩ := r
    exact ⟨a, vs, h1, h2, h3, nd, fr⟩
  | some R =>
    obtain ⟨⟨a, vs, h1, h2, h3⟩, fr⟩ := r
    exact ⟨a, vs, h1, h2, h3, fr⟩
theorem same_new {p : Addr} {o : HO} (h : H p = none) : Same H (upd H p o) := fun b x e => by
  rw [upd_ne (ne_of_none e h)]
  exact e
/-- a list, a tuple made -/
theorem RepsR.newL (r : RepsR K H0 H Fs k ds vs F) (s0 : Same H0 H) {p : Addr} (hp : H p = none) : RepR K H0 (upd H p (.lst vs)) Fs k (.lst ds) (.ref p) (p :: F) := by
  have r' := r.same (same_new (o := .lst vs) hp)
  have hF : p ∉ F := fun hm => by
    obtain ⟨u, e, _⟩ := Reps.tr ds vs F r.rep p hm
    rw [hp] at e; cases e
  cases k with
  | none =>
    refine ⟨⟨p, vs, F, rfl, r'.1, upd_same, rfl⟩, List.nodup_cons.mpr ⟨hF, r'.2.1⟩, fun a ha => ?_⟩
    rcases List.mem_cons.mp ha with rfl | ha
    · exact s0.free hp
    · exact r'.2.2 a ha
  | some R =>
    refine ⟨⟨p, vs, F, rfl, r'.1, upd_same, rfl⟩, fun a ha => ?_⟩
    rcases List.mem_cons.mp ha with rfl | ha
    · exact .inl (s0.free hp)
    · exact r'.2 a ha
theorem RepsR.newT (r : RepsR K H0 H Fs k ds vs F) {p : Addr} (hp : H p = none) : RepR K H0 (upd H p (.tup vs)) Fs k (.tup ds) (.ref p) F := by
  have r' := r.same (same_new (o := .tup vs) hp)
  cases k with
  | none => exact ⟨⟨p, vs, rfl, upd_same, r'.1⟩, r'.2⟩
  | some R => exact ⟨⟨p, vs, rfl, upd_same, r'.1⟩, r'.2⟩
theorem RepsR.oldT (r : RepsR K H0 H Fs k ds vs F) {p : Addr} (hp : H p = some (.tup vs)) : RepR K H0 H Fs k (.tup ds) (.ref p) F := by
  cases k with
  | none => exact ⟨⟨p, vs, rfl, hp, r.1⟩, r.2⟩
  | some R => exact ⟨⟨p, vs, rfl, hp, r.1⟩, r.2⟩
/-- taking, dropping -/
theorem Reps.takeDrop {o : Bool} : ∀ (n : Nat) {ds : List D} {vs : List V} {F : List Addr}, Reps K H o ds vs F → ∃ G1 G2, F = G1 ++ G2 ∧ Reps K H o (ds.take n) (vs.take n) G1 ∧ Reps K H o (ds.drop n) (vs.drop n) G2
  | 0, ds, vs, F, h => ⟨[], F, rfl, ⟨by simp, rfl⟩, by simpa using h⟩
  | n + 1, [], vs, F, h => ⟨[], [], by rw [h.2]; rfl, ⟨by rw [h.1]; rfl, rfl⟩, ⟨by rw [h.1]; rfl, rfl⟩⟩
  | n + 1, d :: ds, vs, F, h => by
    obtain ⟨v, r, G1, G2, h1, h2, h3, h4⟩ := h
    obtain ⟨A, B, e, q1, q2⟩ := Reps.takeDrop n h4
    refine ⟨G1 ++ A, B, by rw [h2, e, List.append_assoc], ?_, by rw [h1]; exact q2⟩
    rw [h1]
    exact ⟨v, r.take n, G1, A, rfl, rfl, h3, q1⟩
theorem RepsR.take (r : RepsR K H0 H Fs k ds vs F) (n : Nat) : ∃ G, RepsR K H0 H Fs k (ds.take n) (vs.take n) G := by
  cases k with
  | none =>
    obtain ⟨A, B, e, q1, q2⟩ := Reps.takeDrop n r.1
    exact ⟨A, q1, by have := r.2.1; rw [e, List.nodup_append] at this; exact this.1, fun a ha => r.2.2 a (by rw [e]; exact List.mem_append_left _ ha)⟩
  | some R =>
    obtain ⟨A, B, e, q1, q2⟩ := Reps.takeDrop n r.1
    exact ⟨A, q1, fun a ha => r.2 a (by rw [e]; exact List.mem_append_left _ ha)⟩
theorem RepsR.drop (r : RepsR K H0 H Fs k ds vs F) (n : Nat) : ∃ G, RepsR K H0 H Fs k (ds.drop n) (vs.drop n) G := by
  cases k with
  | none =>
    obtain ⟨A, B, e, q1, q2⟩ := Reps.takeDrop n r.1
    exact ⟨B, q2, by have := r.2.1; rw [e, List.nodup_append] at this; exact this.2.1, fun a ha => r.2.2 a (by rw [e]; exact List.mem_append_right _ ha)⟩
  | some R =>
    obtain ⟨A, B, e, q1, q2⟩ := Reps.takeDrop n r.1
    exact ⟨B, q2, fun a ha => r.2 a (by rw [e]; exact List.mem_append_right _ ha)⟩
end
/-- the items of ds[lo:hi] -/
def cutD (ds : List D) (lo hi : Option Int) : List D := (ds.drop (HT.sIx ds.length 0 lo)).take (HT.sIx ds.length ds.length hi - HT.sIx ds.length 0 lo)
theorem RepsR.cut {K : PySem.W.Frag} {H0 H : Hp} {Fs : Nat → List Addr} {k : Kd} {ds : List D} {vs : List V} {F : List Addr} (r : RepsR K H0 H Fs k ds vs F) (lo hi : Option Int) : ∃ G, RepsR K H0 H Fs k (cutD ds lo hi) (cutV vs lo hi) G := by
  unfold cutD cutV
  rw [r.len]
  obtain ⟨G, r1⟩ := r.drop (HT.sIx ds.length 0 lo)
  exact r1.take _
section
variable {X : Cx} {C : Ct} {ρ : DEnv} {σ : L2.St} {H : Hp} {Fs : Nat → List Addr} {a b e : Expr} {es : List Expr} {sa sb s : SE} {t : SA} {pos : Pos}
/-! ### arguments -/
def sANil : SA := fun _ => some []
def sACons (s : SE) (t : SA) : SA := fun ρ => match s ρ, t ρ with
  | some p, some r => some (p :: r)
  | _, _ => none
theorem dANil : PPA X [] sANil := ⟨fun C ρ σ H Fs ds Q E h q => by
  cases (show some [] = some ds from h)
  exact WA.of pa_nil (q [] H [] (Same.refl H) ⟨rfl, rfl⟩)⟩
theorem RepRs.tr {K : PySem.W.Frag} {H0 H : Hp} : ∀ {ds : List (D × Kd)} {vs : List V} {Gs : List (List Addr)}, RepRs K H0 H Fs ds vs Gs → ∀ (i : Nat) (q : D × Kd) (G : List Addr), ds[i]? = some q → Gs[i]? = some G → ∃ v, vs[i]? = some v ∧ RepR K H0 H Fs q.2 q.1 v G
  | [], vs, Gs, h, i, q, G, e, _ => by simp at e
  | (d, k) :: r, vs, Gs, h, i, q, G, e, e' => by
    obtain ⟨v, ws, F, Ls, h1, h2, h3, h4, _⟩ := h
    cases i with
    | zero =>
      rw [h2] at e'
      have e1 : (d, k) = q := by simpa using e
      have e2 : F = G := by simpa using e'
      subst e1; subst e2
      exact ⟨v, by rw [h1]; rfl, h3⟩
    | succ i =>
      rw [h2] at e'
      obtain ⟨w, q1, q2⟩ := RepRs.tr h4 i q G (by simpa using e) (by simpa using e')
      exact ⟨w, by rw [h1]; simpa using q1, q2⟩
theorem RepRs.back {K : PySem.W.Frag} {H0 H1 H : Hp} (s : Same H0 H1) : ∀ {ds : List (D × Kd)} {vs : List V} {Gs : List (List Addr)}, RepRs K H1 H Fs ds vs Gs → RepRs K H0 H Fs ds vs Gs
  | [], vs, Gs, h => h
  | (d, k) :: r, vs, Gs, h => by
    obtain ⟨v, ws, F, Ls, h1, h2, h3, h4, h5⟩ := h
    exact ⟨v, ws, F, Ls, h1, h2, h3.back s, RepRs.back s h4, h5⟩
theorem RepRs.mem {K : PySem.W.Frag} {H0 H : Hp} : ∀ {ds : List (D × Kd)} {vs : List V} {Gs : List (List Addr)}, RepRs K H0 H Fs ds vs Gs → Gs.length = ds.length
  | [], vs, Gs, h => by rw [h.2]; rfl
  | (d, k) :: r, vs, Gs, h => by
    obtain ⟨v, ws, F, Ls, h1, h2, h3, h4, _⟩ := h
    rw [h2, List.length_cons, List.length_cons, RepRs.mem h4]
theorem dACons (ha : PP X e s) (hr : PPA X es t) (hs : starEach (e :: es) X.env = (false, eval e X.env) :: starEach es X.env := by rfl) : PPA X (e :: es) (sACons s t) := by
  refine ⟨fun C ρ σ H Fs ds Q E h q => WA.of (pa_cons (we X e) (wa X es) hs) ?_⟩
  unfold sACons at h
  split at h
  · rename_i p r h1 h2
    cases h
    obtain ⟨d, k⟩ := p
    refine ha.run C ρ σ H Fs d k _ E h1 fun v H1 F s1 r1 => hr.run C ρ σ H1 Fs r _ (E.same s1) h2 fun vs H2 Gs s2 r2 => ?_
    refine q (v :: vs) H2 (F :: Gs) (s1.trans s2) ⟨v, vs, F, Gs, rfl, rfl, r1.same s2, r2.back s1, fun hk G hG c hc hg => ?_, fun c hc i p G e1 e2 e3 hg => ?_⟩
    · obtain ⟨i, hi⟩ := List.getElem?_of_mem hG
      have hl := r2.mem
      have hlt : i < r.length := by
        rw [← hl]
        exact (List.getElem?_eq_some_iff.mp hi).1
      obtain ⟨w, _, rw⟩ := r2.tr i r[i] G (List.getElem?_eq_getElem hlt) hi
      obtain ⟨z, ez, _⟩ := Rep.tr d v F r1.rep c hc
      subst hk
      cases hk2 : (r[i]).2 with
      | none =>
        rw [hk2] at rw
        have := rw.2.2 c hg
        rw [ez] at this; cases this
      | some R =>
        rw [hk2] at rw
        rcases rw.2 c hg with n | ⟨j, _, hj⟩
        · rw [ez] at n; cases n
        · obtain ⟨z', ez', _⟩ := E.trA hj
          have := r1.2.2 c hc
          rw [ez'] at this; cases this
    · obtain ⟨w, _, rw⟩ := r2.tr i p G e1 e3
      obtain ⟨z, ez, _⟩ := Rep.tr d v F r1.rep c hc
      rw [e2] at rw
      have := rw.2.2 c hg
      rw [ez] at this; cases this
  · cases h
/-- the data, the kind of all -/
def dsOf (l : List (D × Kd)) : List D := l.map (·.1)
def kAll : List (D × Kd) → Kd
  | [] => none
  | (_, k) :: r => kj k (kAll r)
theorem RepRs.all {K : PySem.W.Frag} {H0 H : Hp} : ∀ {l : List (D × Kd)} {vs : List V} {Gs : List (List Addr)}, RepRs K H0 H Fs l vs Gs → RepsR K H0 H Fs (kAll l) (dsOf l) vs Gs.flatten
  | [], vs, Gs, h => by
    obtain ⟨rfl, rfl⟩ := h
    exact RepsR.nil
  | (d, k) :: r, vs, Gs, h => by
    obtain ⟨v, ws, F, Ls, rfl, rfl, h3, h4, h5, h6⟩ := h
    refine RepsR.cons h3 (RepRs.all h4) fun hk _ a ha hm => ?_
    obtain ⟨G, hG, hg⟩ := List.mem_flatten.mp hm
    exact h5 hk G hG a ha hg
/-! ### displays -/
def sLst (t : SA) : SE := fun ρ => match t ρ with
  | some l => if okP (l.length ≤ sizeLine) = true then some (.lst (dsOf l), kds (dsOf l) (kAll l)) else none
  | none => none
def sTup (t : SA) : SE := fun ρ => match t ρ with
  | some l => if okP (l.length ≤ sizeLine) = true then some (.tup (dsOf l), kds (dsOf l) (kAll l)) else none
  | none => none
theorem dLst (h : PPA X es t) : PP X (.List es pos) (sLst t) := by
  refine ⟨fun C ρ σ H Fs d k Q E hs q => WE.of (pe_lst (wa X es)) ?_⟩
  unfold sLst at hs
  split at hs
  · rename_i l e
    split at hs
    · rename_i hl0
      have hl := okP_iff.mp hl0
      cases hs
      refine h.run C ρ σ H Fs l _ E e fun vs H1 Gs s1 r => ?_
      obtain ⟨G, r2⟩ := r.all.kds
      refine ⟨by rw [r2.len]; unfold dsOf; rw [List.length_map]; exact hl, fun p hp => q _ _ _ (s1.trans (same_new hp)) (r2.newL s1 hp)⟩
    · cases hs
  · cases hs
theorem dTup {x1} (h : PPA X es t) : PP X (.Tuple es x1 pos) (sTup t) := by
  refine ⟨fun C ρ σ H Fs d k Q E hs q => WE.of (pe_tup (wa X es)) ?_⟩
  unfold sTup at hs
  split at hs
  · rename_i l e
    split at hs
    · rename_i hl0
      have hl := okP_iff.mp hl0
      cases hs
      refine h.run C ρ σ H Fs l _ E e fun vs H1 Gs s1 r => ?_
      obtain ⟨G, r2⟩ := r.all.kds
      refine ⟨by rw [r2.len]; unfold dsOf; rw [List.length_map]; exact hl, fun p hp => q _ _ _ (s1.trans (same_new hp)) (r2.newT hp)⟩
    · cases hs
  · cases hs
/-! ### subscripts -/
def sIx (sa sb : SE) : SE := fun ρ => match sa ρ, sb ρ with
  | some (.lst ds, k), some (.int i, _) => match atI ds i with
    | some d => some (d, kd d k)
    | none => none
  | some (.tup ds, k), some (.int i, _) => match atI ds i with
    | some d => some (d, kd d k)
    | none => none
  | some (.rol ds, k), some (.int i, _) => match atI ds i with
    | some d => some (d, kd d k)
    | none => none
  | some (.str z, _), some (.int i, _) => if okP (z.length ≤ sizeLine) = true then (match atI z.cps.toList i with
    | some c => some (.str ⟨#[c]⟩, none)
    | none => none) else none
  | _, _ => none
theorem atI_reps {K : PySem.W.Frag} {H0 : Hp} {k : Kd} {ds : List D} {vs : List V} {F : List Addr} {i : Int} {d : D} (r : RepsR K H0 H Fs k ds vs F) (h : atI ds i = some d) : ∃ v G, atI vs i = some v ∧ RepR K H0 H Fs k d v G := by
  unfold atI at h ⊢
  rw [r.len]
  cases e : ixN ds.length i with
  | none => rw [e] at h; cases h
  | some j =>
    rw [e] at h
    exact r.get (show ds[j]? = some d from h)
theorem dIx (ha : PP X a sa) (hb : PP X b sb) (hp : PlainIx b := by exact fun _ _ => rfl) : PP X (.Subscript a b pos) (sIx sa sb) := by
  refine ⟨fun C ρ σ H Fs d k Q E h q => WE.of (pe_ix ix_seq (we X a) (we X b) hp) ?_⟩
  unfold sIx at h
  split at h
  · rename_i ds k1 i k2 h1 h2
    split at h
    · rename_i d' h3
      cases h
      refine two ha hb E h1 h2 fun v u H' F G s r1 r2 _ => ?_
      obtain ⟨p, vs, G', rfl, hl, _, r3⟩ := r1.lst
      obtain ⟨w, G2, e, r4⟩ := atI_reps r3 h3
      obtain ⟨G3, r5⟩ := r4.kd
      exact .inl ⟨p, vs, i, w, rfl, r2.rep.1, SqL.of hl, e, q w H' G3 s r5⟩
    · cases h
  · rename_i ds k1 i k2 h1 h2
    split at h
    · rename_i d' h3
      cases h
      refine two ha hb E h1 h2 fun v u H' F G s r1 r2 _ => ?_
      obtain ⟨p, vs, rfl, hl, r3⟩ := r1.tup
      obtain ⟨w, G2, e, r4⟩ := atI_reps r3 h3
      obtain ⟨G3, r5⟩ := r4.kd
      exact .inr (.inl ⟨p, vs, i, w, rfl, r2.rep.1, SqT.of hl, e, q w H' G3 s r5⟩)
    · cases h
  · rename_i ds k1 i k2 h1 h2
    split at h
    · rename_i d' h3
      cases h
      refine two ha hb E h1 h2 fun v u H' F G s r1 r2 _ => ?_
      obtain ⟨p, vs, rfl, hl, r3⟩ := r1.rol
      obtain ⟨w, G2, e, r4⟩ := atI_reps r3 h3
      obtain ⟨G3, r5⟩ := r4.kd
      exact .inl ⟨p, vs, i, w, rfl, r2.rep.1, hl, e, q w H' G3 s r5⟩
    · cases h
  · rename_i z k1 i k2 h1 h2
    split at h
    · rename_i hz0
      have hz := okP_iff.mp hz0
      split at h
      · rename_i c h3
        cases h
        refine two ha hb E h1 h2 fun v u H' F G s r1 r2 _ => ?_
        exact .inr (.inr ⟨z, i, c, r1.rep.1, r2.rep.1, hz, h3, q _ H' [] s ⟨⟨rfl, rfl⟩, List.nodup_nil, fun a ha => by cases ha⟩⟩)
      · cases h
    · cases h
  · cases h
/-- a part of a slice: left out, or an int -/
structure PPO (X : Cx) (e : Option Expr) (s : DEnv → Option (Option Int)) : Prop where
  run : ∃ t : TO, PO X e t ∧ ∀ (C : Ct) (ρ : DEnv) (σ : L2.St) (H : Hp) (Fs : Nat → List Addr) (i : Option Int) (Q : Option Int → Hp → Prop), EnvOk X.K C H ρ σ Fs → s ρ = some i → (∀ H', Same H H' → Q i H') → t σ H Q
def sOSome (s : SE) : DEnv → Option (Option Int) := fun ρ => match s ρ with
  | some (.int i, _) => some (some i)
  | _ => none
theorem dONone : PPO X none (fun _ => some none) := ⟨_, po_none, fun C ρ σ H Fs i Q E h q => by
  cases h
  exact q H (Same.refl H)⟩
theorem dOSome (h : PP X e s) : PPO X (some e) (sOSome s) := ⟨_, po_some (we X e), fun C ρ σ H Fs i Q E hs q => by
  unfold sOSome at hs
  split at hs
  · rename_i j k e1
    cases hs
    exact h.run C ρ σ H Fs _ k _ E e1 fun v H' F s1 r => ⟨j, r.rep.1, q H' s1⟩
  · cases hs⟩
def sSl (s : SE) (lo hi : DEnv → Option (Option Int)) : SE := fun ρ => match s ρ, lo ρ, hi ρ with
  | some (.lst ds, k), some l, some u => some (.lst (cutD ds l u), kds (cutD ds l u) k)
  | some (.rol ds, k), some l, some u => some (.lst (cutD ds l u), kds (cutD ds l u) k)
  | some (.tup ds, k), some l, some u => some (.tup (cutD ds l u), kds (cutD ds l u) k)
  | some (.str z, _), some l, some u => if okP (z.length ≤ sizeLine) = true then some (.str (cutS z l u), none) else none
  | _, _, _ => none
theorem cutV_whole (xs : List V) (lo hi : Option Int) (h : HT.sIx xs.length 0 lo = 0 ∧ HT.sIx xs.length xs.length hi = xs.length) : cutV xs lo hi = xs := by
  unfold cutV
  rw [h.1, h.2]
  simp
theorem dSl {lo hi : Option Expr} {sl sh : DEnv → Option (Option Int)} {p2 : Pos} (h : PP X e s) (hl : PPO X lo sl) (hh : PPO X hi sh) : PP X (.Subscript e (.Slice lo hi none p2) pos) (sSl s sl sh) := by
  obtain ⟨tl, pl, ql⟩ := hl
  obtain ⟨th, ph, qh⟩ := hh
  refine ⟨fun C ρ σ H Fs d k Q E hs q => WE.of (pe_slice (SlR.or sl_list (SlR.or sl_tupA sl_str)) (we X e) pl ph) ?_⟩
  unfold sSl at hs
  split at hs
  · rename_i ds k1 l u h1 h2 h3
    cases hs
    refine h.run C ρ σ H Fs _ k1 _ E h1 fun v H1 F s1 r1 => ql C ρ σ H1 Fs l _ (E.same s1) h2 fun H2 s2 => qh C ρ σ H2 Fs u _ (E.same (s1.trans s2)) h3 fun H3 s3 => ?_
    obtain ⟨p, vs, G', rfl, hq, _, r3⟩ := ((r1.same s2).same s3).lst
    obtain ⟨G2, r4⟩ := r3.cut l u
    obtain ⟨G3, r5⟩ := r4.kds
    have s13 := (s1.trans s2).trans s3
    exact .inl ⟨p, vs, rfl, SqL.of hq, fun p' hp => q _ _ _ (s13.trans (same_new hp)) (r5.newL s13 hp)⟩
  · rename_i ds k1 l u h1 h2 h3
    cases hs
    refine h.run C ρ σ H Fs _ k1 _ E h1 fun v H1 F s1 r1 => ql C ρ σ H1 Fs l _ (E.same s1) h2 fun H2 s2 => qh C ρ σ H2 Fs u _ (E.same (s1.trans s2)) h3 fun H3 s3 => ?_
    obtain ⟨p, vs, rfl, hq, r3⟩ := ((r1.same s2).same s3).rol
    obtain ⟨G2, r4⟩ := r3.cut l u
    obtain ⟨G3, r5⟩ := r4.kds
    have s13 := (s1.trans s2).trans s3
    exact .inl ⟨p, vs, rfl, hq, fun p' hp => q _ _ _ (s13.trans (same_new hp)) (r5.newL s13 hp)⟩
  · rename_i ds k1 l u h1 h2 h3
    cases hs
    refine h.run C ρ σ H Fs _ k1 _ E h1 fun v H1 F s1 r1 => ql C ρ σ H1 Fs l _ (E.same s1) h2 fun H2 s2 => qh C ρ σ H2 Fs u _ (E.same (s1.trans s2)) h3 fun H3 s3 => ?_
    obtain ⟨p, vs, rfl, hq, r3⟩ := ((r1.same s2).same s3).tup
    obtain ⟨G2, r4⟩ := r3.cut l u
    obtain ⟨G3, r5⟩ := r4.kds
    have s13 := (s1.trans s2).trans s3
    refine .inr (.inl ⟨p, vs, rfl, SqT.of hq, fun hw => ?_, fun _ p' hp => q _ _ _ (s13.trans (same_new hp)) (r5.newT hp)⟩)
    rw [cutV_whole vs l u hw] at r5
    exact q _ H3 _ s13 (r5.oldT hq)
  · rename_i z k1 l u h1 h2 h3
    split at hs
    · rename_i hz0
      have hz := okP_iff.mp hz0
      cases hs
      refine h.run C ρ σ H Fs _ k1 _ E h1 fun v H1 F s1 r1 => ql C ρ σ H1 Fs l _ (E.same s1) h2 fun H2 s2 => qh C ρ σ H2 Fs u _ (E.same (s1.trans s2)) h3 fun H3 s3 => ?_
      exact .inr (.inr ⟨z, r1.rep.1, hz, q _ H3 [] ((s1.trans s2).trans s3) ⟨⟨rfl, rfl⟩, List.nodup_nil, fun a ha => by cases ha⟩⟩)
    · cases hs
  · cases hs
/-! ### + and * of lists and tuples -/
def sCatL (sa sb : SE) : SE := fun ρ => match sa ρ, sb ρ with
  | some (.lst ds, k1), some (.lst es, k2) => if okP (ds.length + es.length ≤ sizeLine) = true then some (.lst (ds ++ es), kds (ds ++ es) (kj k1 k2)) else none
  | some (.tup ds, k1), some (.tup es, k2) => if okP (ds.length + es.length ≤ sizeLine) = true then some (.tup (ds ++ es), kds (ds ++ es) (kj k1 k2)) else none
  | _, _ => none
theorem kds_app {K : PySem.W.Frag} {H0 : Hp} {k1 k2 : Kd} {ds es : List D} {vs ws : List V} {F G : List Addr} (r1 : RepsR K H0 H Fs k1 ds vs F) (r2 : RepsR K H0 H Fs k2 es ws G) (dj : k1 = none → k2 = none → ∀ a ∈ F, a ∉ G) :
    ∃ G', RepsR K H0 H Fs (kds (ds ++ es) (kj k1 k2)) (ds ++ es) (vs ++ ws) G' := (r1.app r2 dj).kds
theorem dCatL (ha : PP X a sa) (hb : PP X b sb) : PP X (.BinOp a .Add b pos) (sCatL sa sb) := by
  refine ⟨fun C ρ σ H Fs d k Q E h q => WE.of (pe_op (OpR.or op_cat op_catA) (we X a) (we X b)) ?_⟩
  unfold sCatL at h
  split at h
  · rename_i ds k1 es k2 h1 h2
    split at h
    · rename_i hz0
      have hz := okP_iff.mp hz0
      cases h
      refine two ha hb E h1 h2 fun v u H' F G s r1 r2 dj => ?_
      obtain ⟨p, vs, F', rfl, hl, eF, r3⟩ := r1.lst
      obtain ⟨p2, ws, G', rfl, hl2, eG, r4⟩ := r2.lst
      obtain ⟨G3, r5⟩ := kds_app r3 r4 fun z _ c hc hg => dj (.inl z) c (by rw [eF]; exact List.mem_cons_of_mem _ hc) (by rw [eG]; exact List.mem_cons_of_mem _ hg)
      exact .inl ⟨p, p2, vs, ws, rfl, rfl, hl, hl2, by rw [r3.len, r4.len]; exact hz, fun p' hp => q _ _ _ (s.trans (same_new hp)) (r5.newL s hp)⟩
    · cases h
  · rename_i ds k1 es k2 h1 h2
    split at h
    · rename_i hz0
      have hz := okP_iff.mp hz0
      cases h
      refine two ha hb E h1 h2 fun v u H' F G s r1 r2 dj => ?_
      obtain ⟨p, vs, rfl, hl, r3⟩ := r1.tup
      obtain ⟨p2, ws, rfl, hl2, r4⟩ := r2.tup
      obtain ⟨G3, r5⟩ := kds_app r3 r4 fun z _ c hc hg => dj (.inl z) c hc hg
      refine .inr ⟨p, p2, vs, ws, rfl, rfl, SqT.of hl, SqT.of hl2, by rw [r3.len, r4.len]; exact hz, fun e => ?_, fun _ e => ?_, fun _ _ p' hp => q _ _ _ (s.trans (same_new hp)) (r5.newT hp)⟩
      · rw [e, List.nil_append] at r5
        exact q _ H' _ s (r5.oldT hl2)
      · rw [e, List.append_nil] at r5
        exact q _ H' _ s (r5.oldT hl)
    · cases h
  · cases h
/-- a list, a tuple n times: of what holds nothing that may be written -/
def sRepL (sa sb : SE) : SE := fun ρ => match sa ρ, sb ρ with
  | some (.lst ds, _), some (.int n, _) => if okP (imms ds = true ∧ -(2 ^ 62) < n ∧ n < 2 ^ 62 ∧ ds.length * n.toNat ≤ sizeLine) = true then some (.lst (List.replicate n.toNat ds).flatten, none) else none
  | _, _ => none
theorem Reps.rep {K : PySem.W.Frag} {o : Bool} {ds : List D} {vs : List V} (h : Reps K H o ds vs []) : ∀ n, Reps K H o (List.replicate n ds).flatten (List.replicate n vs).flatten []
  | 0 => ⟨rfl, rfl⟩
  | n + 1 => by
    rw [List.replicate_succ, List.replicate_succ, List.flatten_cons, List.flatten_cons]
    exact Reps.app h (Reps.rep h n)
theorem dRepL (ha : PP X a sa) (hb : PP X b sb) : PP X (.BinOp a .Mult b pos) (sRepL sa sb) := by
  refine ⟨fun C ρ σ H Fs d k Q E h q => WE.of (pe_op op_rep (we X a) (we X b)) ?_⟩
  unfold sRepL at h
  split at h
  · rename_i ds k1 n k2 h1 h2
    split at h
    · rename_i hz0
      have hz := okP_iff.mp hz0
      cases h
      refine two ha hb E h1 h2 fun v u H' F G s r1 r2 dj => ?_
      obtain ⟨p, vs, F', rfl, hl, eF, r3⟩ := r1.lst
      have r4 : Reps X.K H' true (List.replicate n.toNat ds).flatten (List.replicate n.toNat vs).flatten [] := Reps.rep ((Reps.im ds vs F' hz.1 r3.rep).2 true) _
      have r5 : RepsR X.K H H' Fs none (List.replicate n.toNat ds).flatten (List.replicate n.toNat vs).flatten [] := ⟨r4, List.nodup_nil, fun a ha => by cases ha⟩
      exact ⟨p, n, vs, rfl, r2.rep.1, hl, by omega, by omega, by rw [r3.len]; exact hz.2.2.2, fun p' hp => q _ _ _ (s.trans (same_new hp)) (r5.newL s hp)⟩
    · cases h
  · cases h
/-! ### built-ins of one argument -/
/-- a built-in's (a type's) meaning on data: of what it is told, a value of which nothing may be written, nothing made -/
def CaD (X : Cx) (f : Value) (g : List D → Option D) : Prop :=
  ∃ r : List V → Hp → VK → Prop, CallR X f r ∧ ∀ ds z, g ds = some z → z.imm = true ∧ ∀ (H : Hp) (vs : List V) (F : List Addr) (Q : VK), Reps X.K H false ds vs F → (∀ w H', Same H H' → Rep X.K H' true z w [] → Q w H') → r vs H Q
def sCall (g : List D → Option D) (t : SA) : SE := fun ρ => match t ρ with
  | some l => match g (dsOf l) with
    | some z => some (z, none)
    | none => none
  | none => none
theorem sCall_some {g : List D → Option D} {d : D} {k : Kd} (h : sCall g t ρ = some (d, k)) : ∃ l, t ρ = some l ∧ g (dsOf l) = some d ∧ k = none := by
  unfold sCall at h
  split at h
  · split at h
    · cases h; exact ⟨_, by assumption, by assumption, rfl⟩
    · cases h
  · cases h
theorem dCallB {id : String} {x : Str} {p : Pos} {g : List D → Option D} (o : CaD X (.builtin id) g) (hg : Gl X x) (hm : X.mg x = none) (hv : bootBuiltins x = some (.builtin id)) (ha : PPA X (e :: es) t) (hn : x ≠ "__name__" := by decide) (hdb : (x == ("__debug__" : Str)) = false := by decide)
    (he : starEach (e :: es) X.env = (false, eval e X.env) :: starEach es X.env := by rfl) (hpl : (backTo pos (starEach es X.env)).any (·.1) = false := by rfl) : PP X (.Call (.Name x p) (e :: es) [] pos) (sCall g t) := by
  obtain ⟨r, hr, hf⟩ := o
  refine ⟨fun C ρ σ H Fs d k Q E h q => ?_⟩
  obtain ⟨l, h1, h2, rfl⟩ := sCall_some h
  obtain ⟨im, go⟩ := hf _ _ h2
  exact WE.of (pe_callB hr hg hm hv (wa X _) hn hdb he hpl) (ha.run C ρ σ H Fs l _ E h1 fun vs H1 Gs s1 r1 => go H1 vs _ Q r1.all.rep fun w H2 s2 rw => q w H2 [] (s1.trans s2) (RepR.of_im im rw))
theorem dCallT {T : String} {x : Str} {p : Pos} {g : List D → Option D} (o : CaD X (.type T) g) (hg : Gl X x) (hm : X.mg x = none) (hv : bootBuiltins x = some (.type T)) (ha : PPA X (e :: es) t) (hn : x ≠ "__name__" := by decide) (hdb : (x == ("__debug__" : Str)) = false := by decide)
    (he : starEach (e :: es) X.env = (false, eval e X.env) :: starEach es X.env := by rfl) (hpl : (backTo pos (starEach es X.env)).any (·.1) = false := by rfl) : PP X (.Call (.Name x p) (e :: es) [] pos) (sCall g t) := by
  obtain ⟨r, hr, hf⟩ := o
  refine ⟨fun C ρ σ H Fs d k Q E h q => ?_⟩
  obtain ⟨l, h1, h2, rfl⟩ := sCall_some h
  obtain ⟨im, go⟩ := hf _ _ h2
  exact WE.of (pe_callTy hr hg hm hv (wa X _) hn hdb he hpl) (ha.run C ρ σ H Fs l _ E h1 fun vs H1 Gs s1 r1 => go H1 vs _ Q r1.all.rep fun w H2 s2 rw => q w H2 [] (s1.trans s2) (RepR.of_im im rw))
/-- one argument's form -/
theorem reps1 {K : PySem.W.Frag} {o : Bool} {d : D} {vs : List V} {F : List Addr} (r : Reps K H o [d] vs F) : ∃ v, vs = [v] ∧ Rep K H o d v F := by
  obtain ⟨v, r', G1, G2, h1, h2, h3, h4⟩ := r
  rw [h4.1] at h1
  rw [h4.2, List.append_nil] at h2
  exact ⟨v, h1, h2 ▸ h3⟩
theorem reps2 {K : PySem.W.Frag} {o : Bool} {d d' : D} {vs : List V} {F : List Addr} (r : Reps K H o [d, d'] vs F) : ∃ v v' G G', vs = [v, v'] ∧ Rep K H o d v G ∧ Rep K H o d' v' G' := by
  obtain ⟨v, r', G1, G2, h1, h2, h3, h4⟩ := r
  obtain ⟨v', rfl, h5⟩ := reps1 h4
  exact ⟨v, v', G1, G2, h1, h3, h5⟩
def gLen : List D → Option D
  | [.lst ds] => some (.int ds.length)
  | [.tup ds] => some (.int ds.length)
  | [.rol ds] => some (.int ds.length)
  | [.str z] => if okP (z.length ≤ sizeLine) = true then some (.int z.length) else none
  | _ => none
theorem oLen : CaD X (.builtin "len") gLen := by
  refine ⟨_, call_len, fun ds z h => ?_⟩
  unfold gLen at h
  split at h
  · cases h
    refine ⟨rfl, fun H vs F Q r q => ?_⟩
    obtain ⟨v, rfl, a, ws, G, rfl, r2, hl, _⟩ := reps1 r
    exact ⟨_, _, rfl, .inl ⟨ws, SqL.of hl, by first | rfl | exact r2.len.symm | exact congrArg _ r2.len.symm⟩, q _ H (Same.refl H) ⟨by rw [r2.len], rfl⟩⟩
  · cases h
    refine ⟨rfl, fun H vs F Q r q => ?_⟩
    obtain ⟨v, rfl, a, ws, rfl, hl, r2⟩ := reps1 r
    exact ⟨_, _, rfl, .inr ⟨ws, SqT.of hl, by first | rfl | exact r2.len.symm | exact congrArg _ r2.len.symm⟩, q _ H (Same.refl H) ⟨by rw [r2.len], rfl⟩⟩
  · cases h
    refine ⟨rfl, fun H vs F Q r q => ?_⟩
    obtain ⟨v, rfl, a, ws, rfl, hl, r2⟩ := reps1 r
    exact ⟨_, _, rfl, .inl ⟨ws, hl.sq, by first | rfl | exact r2.len.symm | exact congrArg _ r2.len.symm⟩, q _ H (Same.refl H) ⟨by rw [r2.len], rfl⟩⟩
  · rename_i zz
    split at h
    · rename_i hz0
      have hz := okP_iff.mp hz0
      cases h
      refine ⟨rfl, fun H vs F Q r q => ?_⟩
      obtain ⟨v, rfl, rfl, rfl⟩ := reps1 r
      exact ⟨_, _, rfl, ⟨hz, rfl⟩, q _ H (Same.refl H) ⟨rfl, rfl⟩⟩
    · cases h
  · cases h
end
end DL
end DLsec4
set_option maxRecDepth 100000
/-! DL5: what writes: statements, methods of lists, loops. -/
noncomputable section DLsec5
namespace DL
open PySem PySem.Spec PyProof.Rows L2
section
variable {K : PySem.W.Frag} {C : Ct} {H H' H0 : Hp} {ρ ρ' : DEnv} {σ : L2.St} {Fs Fs' : Nat → List Addr} {k : Kd} {d : D} {v : V} {F : List Addr}
theorem RepV.rep (r : RepV K C ρ Fs H k d v F) : Rep K H false d v F := by
  cases k with
  | none => exact Rep.weak d v F r.1
  | some R => exact r.1
theorem RepV.of_im (i : d.imm = true) (r : Rep K H false d v F) (k : Kd) : RepV K C ρ Fs H k d v [] := by
  have q := (Rep.im d v F i r).2
  cases k with
  | none => exact ⟨q true, List.nodup_nil, fun a ha => by cases ha⟩
  | some R => exact ⟨q false, fun a ha => by cases ha⟩
theorem RepR.inV (r : RepR K H0 H Fs k d v F) (E : EnvOk K C H0 ρ σ Fs) : RepV K C ρ Fs H k d v F := by
  cases k with
  | none =>
    refine ⟨r.1, r.2.1, fun a ha => ⟨E.prot.free (r.2.2 a ha), fun i e n hh hm => ?_⟩⟩
    obtain ⟨u, eu, _⟩ := E.tr hh hm
    rw [r.2.2 a ha] at eu; cases eu
  | some R =>
    refine ⟨r.1, fun a ha i e n hh hn hR hm => ?_⟩
    obtain ⟨u, eu, _⟩ := E.tr hh hm
    rcases r.2 a ha with z | ⟨j, hj, hja⟩
    · rw [z] at eu; cases eu
    · have hij : i ≠ j := fun z => hR (z ▸ hj)
      by_cases hjj : ∃ f q, Has ρ j f q
      · obtain ⟨f, q, hjj⟩ := hjj
        exact E.dis i j e n f q hij hh hn hjj a hm hja
      · rw [E.non j fun f q z => hjj ⟨f, q, z⟩] at hja
        cases hja
/-- what is one slot's own is written -/
theorem EnvOk.wr (E : EnvOk K C H ρ σ Fs) {i : Nat} {d d' : D} {m : Md} (hh : Has ρ i d m) (hm : m.o = true) (kp : Kp H H') (at_ : ∀ a o, H a = some o → a ∉ Fs i → H' a = some o)
    (r : ∀ v, σ[i]? = some (some v) → Rep K H' true d' v F) (nd : F.Nodup) (fr : ∀ a ∈ F, a ∈ Fs i ∨ (C.P a = none ∧ ∀ j e n, j ≠ i → Has ρ j e n → a ∉ Fs j)) :
    EnvOk K C H' (ρ.set i (some (d', m))) σ (fun j => if j = i then F else Fs j) := by
  have hi : i < ρ.length := (List.getElem?_eq_some_iff.mp hh).1
  have get : ∀ {j : Nat} {e : D} {n : Md}, Has (ρ.set i (some (d', m))) j e n → (j = i ∧ e = d' ∧ n = m) ∨ (j ≠ i ∧ Has ρ j e n) := fun {j e n} h => by
    by_cases hj : j = i
    · subst hj
      have h : (ρ.set j (some (d', m)))[j]? = some (some (e, n)) := h
      rw [List.getElem?_set_self hi] at h
      cases h
      exact .inl ⟨rfl, rfl, rfl⟩
    · have h : (ρ.set i (some (d', m)))[j]? = some (some (e, n)) := h
      rw [List.getElem?_set_ne (Ne.symm hj)] at h
      exact .inr ⟨hj, h⟩
  have fr' : ∀ a ∈ F, C.P a = none ∧ ∀ j e n, j ≠ i → Has ρ j e n → a ∉ Fs j := fun a ha => by
    rcases fr a ha with z | z
    · exact ⟨(E.nd i d m hh hm).2 a z, fun j e n hj hje => E.dis i j d m e n (Ne.symm hj) hh hm hje a z⟩
    · exact z
  refine ⟨by simp [E.len], fun j e n h => ?_, fun j e n h o => ?_, fun j l e n f q hjl h o h' => ?_, fun a o e => ?_, fun j e h => ?_, fun j h => ?_⟩
  · rcases get h with ⟨rfl, rfl, rfl⟩ | ⟨hj, hr⟩
    · obtain ⟨v, h1, _⟩ := E.rep j d n hh
      refine ⟨v, h1, ?_⟩
      simp only [if_true]
      rw [hm]
      exact r v h1
    · obtain ⟨w, h1, h2⟩ := E.rep j e n hr
      refine ⟨w, h1, ?_⟩
      simp only [hj, if_false]
      refine Rep.kp kp e w _ h2 fun a ha => ?_
      obtain ⟨u, eu, _⟩ := E.tr hr ha
      rw [eu, at_ a u eu fun z => E.dis i j d m e n (Ne.symm hj) hh hm hr a z ha]
  · rcases get h with ⟨rfl, rfl, rfl⟩ | ⟨hj, hr⟩
    · simp only [if_true]
      exact ⟨nd, fun a ha => (fr' a ha).1⟩
    · simp only [hj, if_false]
      exact E.nd j e n hr o
  · rcases get h with ⟨rfl, rfl, rfl⟩ | ⟨hj, hr⟩
    · rcases get h' with ⟨rfl, _⟩ | ⟨hl, hr'⟩
      · exact absurd rfl hjl
      · simp only [if_true, hl, if_false]
        exact fun a ha => (fr' a ha).2 l f q hl hr'
    · rcases get h' with ⟨rfl, rfl, rfl⟩ | ⟨hl, hr'⟩
      · simp only [if_true, hj, if_false]
        exact fun a ha hb => (fr' a hb).2 j e n hj hr ha
      · simp only [hj, hl, if_false]
        exact E.dis j l e n f q hjl hr o hr'
  · exact at_ a o (E.prot a o e) fun z => by
      rw [(E.nd i d m hh hm).2 a z] at e
      cases e
  · rcases get h with ⟨rfl, rfl, e⟩ | ⟨hj, hr⟩
    · exact E.arg j d (e ▸ hh)
    · exact E.arg j e hr
  · by_cases hj : j = i
    · subst hj
      exact absurd (List.getElem?_set_self hi) (h d' m)
    · simp only [hj, if_false]
      refine E.non j fun e n z => h e n ?_
      show (ρ.set i (some (d', m)))[j]? = _
      rw [List.getElem?_set_ne (Ne.symm hj)]
      exact z
/-- a name is stored -/
def setS (i : Nat) (d : D) (k : Kd) (ρ : DEnv) : Option DEnv := match ρ[i]? with
  | none => none
  | some (some (_, .arg)) => none
  | _ => if d.imm = true then some (ρ.set i (some (d, .own))) else (match k with
    | none => some (ρ.set i (some (d, .own)))
    | some R => match frz R 0 ρ with
      | some ρ' => some (ρ'.set i (some (d, .shr)))
      | none => none)
theorem setS_ok (E : EnvOk K C H ρ σ Fs) {i : Nat} (r : RepV K C ρ Fs H k d v F) (h : setS i d k ρ = some ρ') : i < ρ.length ∧ ∃ Fs', EnvOk K C H ρ' (σ.set i (some v)) Fs' := by
  unfold setS at h
  have hi : i < ρ.length := by
    cases e : ρ[i]? with
    | none => rw [e] at h; cases h
    | some x => exact (List.getElem?_eq_some_iff.mp e).1
  split at h
  · cases h
  · cases h
  · refine ⟨hi, ?_⟩
    split at h
    · rename_i im
      cases h
      obtain ⟨_, q⟩ := Rep.im d v F im r.rep
      exact ⟨_, E.put hi (by decide) (q true) (fun _ => ⟨List.nodup_nil, (fun a ha => by cases ha), fun j e n _ _ a ha => by cases ha⟩) (fun j e n _ _ _ a ha => by cases ha)⟩
    · cases k with
      | none =>
        cases h
        obtain ⟨r1, r2, r3⟩ := r
        exact ⟨_, E.put hi (by decide) r1 (fun _ => ⟨r2, fun a ha => (r3 a ha).1, fun j e n _ hj a ha => (r3 a ha).2 j e n hj⟩) (fun j e n _ hj _ a ha => (r3 a ha).2 j e n hj)⟩
      | some R =>
        cases hz : frz R 0 ρ with
        | none => simp only [hz] at h; cases h
        | some ρ1 =>
          simp only [hz] at h
          cases h
          obtain ⟨hl, hg, _⟩ := frz_spec hz
          have E1 := E.frz hz
          refine ⟨_, E1.put (m := .shr) (by rw [hl]; exact hi) (by decide) r.1 (fun z => by cases z) (fun j e n hj hje o a ha => ?_)⟩
          obtain ⟨m0, e0, q1, _, q3⟩ := hg j e n hje
          exact r.2 a ha j e m0 e0 (by rw [q1 o]; exact o) (by simpa using q3 o)
end
section
variable {X : Cx} {C : Ct} {ρ : DEnv} {σ : L2.St} {H : Hp} {Fs : Nat → List Addr} {a b e : Expr} {s : SE} {pos : Pos}
/-- what writes nothing, as what may -/
def sX (s : SE) : SX := fun ρ => match s ρ with
  | some (d, k) => .ok d k ρ
  | none => .bad
theorem PP.x (h : PP X e s) : PX X e (sX s) := by
  refine ⟨fun C W ρ σ H Fs Q tk E hq => ?_⟩
  unfold sX at hq
  cases hs : s ρ with
  | none => rw [hs] at hq; exact hq.elim
  | some p =>
    obtain ⟨d, k⟩ := p
    rw [hs] at hq
    exact h.run C ρ σ H Fs d k Q E hs fun v H' F s1 r1 => hq v H' F Fs (E.same s1) Shr.refl (r1.inV E)
/-! ### targets -/
def WG (X : Cx) (tg : Expr) : TG := fun v σ H Q => ∀ (pins : List (Addr × Obj)) (s : Shared) (u : Value), Inv X pins σ H s → RelV v u →
    wpAny (model X.prog X.w) X.A (assign tg X.env u) (fun _ s' => ∃ σ' H', Inv X pins σ' H' s' ∧ Q σ' H') X.xe s
theorem wg (tg : Expr) : PG X tg (WG X tg) := ⟨fun pins s _ _ _ u _ I r h => h pins s u I r⟩
theorem WG.of {tg : Expr} {t : TG} (h : PG X tg t) {v : V} {Q : L2.St → Hp → Prop} (q : t v σ H Q) : WG X tg v σ H Q := fun pins s u I r => h.run pins s σ H v u Q I r q
abbrev SG := D → Kd → DEnv → Option DEnv
structure PGd (X : Cx) (tg : Expr) (is : List Nat) (g : SG) : Prop where
  run : ∀ (C : Ct) (ρ ρ' : DEnv) (σ : L2.St) (H : Hp) (Fs : Nat → List Addr) (d : D) (k : Kd) (v : V) (F : List Addr) (Q : L2.St → Hp → Prop), EnvOk X.K C H ρ σ Fs → RepV X.K C ρ Fs H k d v F → g d k ρ = some ρ' →
    (∀ σ' Fs', EnvOk X.K C H ρ' σ' Fs' → σ'.length = σ.length → (∀ j, j ∉ is → σ'[j]? = σ[j]?) → Q σ' H) → WG X tg v σ H Q
theorem dgName (i : Nat) {x : Str} {pos : Pos} (hN : X.N.Nodup) (hi : X.N[i]? = some x := by rfl) (hx : Loc X.env.scope x := by first | exact Or.inl rfl | exact Or.inr rfl) (hf : X.fn x = true ∨ X.env.scope.names.lookup x = some .local := by first | exact .inl rfl | exact .inr rfl) : PGd X (.Name x pos) [i] (setS i) := by
  refine ⟨fun C ρ ρ' σ H Fs d k v F Q E r h q => WG.of (pg_name hN hi hx hf) ?_⟩
  obtain ⟨_, Fs', E'⟩ := setS_ok E r h
  exact q _ Fs' E' (by simp) fun j hj => List.getElem?_set_ne fun z => hj (by simp [z])
/-! ### statements -/
def sAsg (s : SX) (g : SG) : SS := fun ρ => match s ρ with
  | .ok d k ρ' => (match g d k ρ' with
    | some ρ'' => .nx ρ''
    | none => .bad)
  | .ex x ρ' => .ex x ρ'
  | .bad => .bad
variable {sx : SX} {g : SG}
theorem asg_go {Z : Ends} {W : WX} {tg : Expr} {is : List Nat} (he : PX X e sx) (hg : PGd X tg is g) (tk : Takes X W) (E : EnvOk X.K C H ρ σ Fs) (h : OutOk X.K C Z W (sAsg sx g ρ)) : WE X e σ H fun x H1 => WG X tg x σ H1 Z.nx := by
  refine he.run C W ρ σ H Fs _ tk E ?_
  unfold sAsg at h
  cases hs : sx ρ with
  | bad => rw [hs] at h; exact h.elim
  | ex x ρ' =>
    rw [hs] at h
    exact fun H' Fs' cls dd E' xr => h H' σ Fs' cls dd E' xr
  | ok d k ρ' =>
    rw [hs] at h
    intro v H' F Fs' E' _ r
    cases hg' : g d k ρ' with
    | none => simp only [hg'] at h; exact h.elim
    | some ρ'' =>
      simp only [hg'] at h
      exact hg.run C ρ' ρ'' σ H' Fs' d k v F _ E' r hg' fun σ' Fs'' E'' _ _ => h H' σ' Fs'' E''
/-- target = value, any target that is no name -/
theorem dAsg {tg : Expr} {is : List Nat} (he : PX X e sx) (hg : PGd X tg is g) (hs : swapsWithSole [tg] e pos.line X.env = pure false := by rfl) (hw : swappedStores [tg] e X.env = pure none := by rfl)
    (h1 : (assignEach [tg] X.env).map (·.2) = [assign tg X.env] := by rfl) : PSd X (.Assign [tg] e pos) (sAsg sx g) :=
  ⟨fun C W Z ρ σ H Fs tk E h => WS.of (ps_asg (we X e) (wg tg) hs hw h1) (asg_go he hg tk E h)⟩
/-- name = value -/
theorem dSet (i : Nat) {x : Str} {pos' : Pos} (he : PX X e sx) (hN : X.N.Nodup) (hi : X.N[i]? = some x := by rfl) (hx : Loc X.env.scope x := by first | exact Or.inl rfl | exact Or.inr rfl) (hs : swapsWith e (some (.Name x pos')) pos.line X.env = pure false := by rfl) (hf : X.fn x = true ∨ X.env.scope.names.lookup x = some .local := by first | exact .inl rfl | exact .inr rfl) :
    PSd X (.Assign [.Name x pos'] e pos) (sAsg sx (setS i)) := by
  refine ⟨fun C W Z ρ σ H Fs tk E h => WS.of (ps_set hN hi hx (we X e) hs hf) ?_⟩
  refine he.run C W ρ σ H Fs _ tk E ?_
  unfold sAsg at h
  cases hs : sx ρ with
  | bad => rw [hs] at h; exact h.elim
  | ex x ρ' =>
    rw [hs] at h
    exact fun H' Fs' cls dd E' xr => h H' σ Fs' cls dd E' xr
  | ok d k ρ' =>
    rw [hs] at h
    intro v H' F Fs' E' _ r
    cases hg' : setS i d k ρ' with
    | none => simp only [hg'] at h; exact h.elim
    | some ρ'' =>
      simp only [hg'] at h
      obtain ⟨_, Fs'', E''⟩ := setS_ok E' r hg'
      exact h H' _ Fs'' E''
end
end DL
end DLsec5
set_option maxRecDepth 100000
/-! DL6: blocks, if, return, loops, lists written. -/
noncomputable section DLsec6
namespace DL
open PySem PySem.Spec PyProof.Rows L2
section
variable {X : Cx} {C : Ct} {ρ : DEnv} {σ : L2.St} {H : Hp} {Fs : Nat → List Addr} {a b e : Expr} {s : SE} {sx : SX} {pos : Pos} {st : Stmt} {sts els : List Stmt} {t u : SS}
/-! ### blocks -/
def sNil : SS := fun ρ => .nx ρ
def sSeq (t u : SS) : SS := fun ρ => match t ρ with
  | .nx ρ' => u ρ'
  | o => o
theorem dNil : PSsd X [] sNil := ⟨fun C W Z ρ σ H Fs tk E h => WSs.of pss_nil (h H σ Fs E)⟩
theorem dCons (h1 : PSd X st t) (h2 : PSsd X sts u) : PSsd X (st :: sts) (sSeq t u) := by
  refine ⟨fun C W Z ρ σ H Fs tk E h => WSs.of (pss_cons (ws X st) (wss X sts)) ?_⟩
  refine h1.run C W { Z with nx := WSs X sts Z } ρ σ H Fs tk E ?_
  unfold sSeq at h
  cases hs : t ρ with
  | nx ρ' =>
    rw [hs] at h
    exact fun H' σ' Fs' E' => h2.run C W Z ρ' σ' H' Fs' tk E' h
  | ct ρ' => rw [hs] at h; exact h
  | bk ρ' => rw [hs] at h; exact h
  | rt d ρ' => rw [hs] at h; exact h
  | ex x ρ' => rw [hs] at h; exact h
  | bad => rw [hs] at h; exact h
theorem dLast (h1 : PSd X st t) : PSsd X [st] t :=
  ⟨fun C W Z ρ σ H Fs tk E h => WSs.of (pss_one (ws X st)) (h1.run C W Z ρ σ H Fs tk E h)⟩
def sCont : SS := fun ρ => .ct ρ
theorem dCont : PSd X (.Continue pos) sCont := ⟨fun C W Z ρ σ H Fs tk E h => WS.of ps_continue (h H σ Fs E)⟩
theorem dPass : PSd X (.Pass pos) sNil := ⟨fun C W Z ρ σ H Fs tk E h => WS.of ps_pass (h H σ Fs E)⟩
/-- code that is never come to -/
def sNo : SS := fun _ => .bad
theorem dNo : PSd X st sNo := ⟨fun C W Z ρ σ H Fs tk E h => h.elim⟩
theorem dNos : PSsd X sts sNo := ⟨fun C W Z ρ σ H Fs tk E h => h.elim⟩
/-! ### if -/
inductive BO where
  | ok (b : Bool) (ρ : DEnv) | ex (x : Xn) (ρ : DEnv) | bad
abbrev SB := DEnv → BO
/-- a test that may write -/
structure PXT (X : Cx) (e : Expr) (s : SB) : Prop where
  run : ∀ (C : Ct) (W : WX) (ρ : DEnv) (σ : L2.St) (H : Hp) (Fs : Nat → List Addr) (Q : Bool → Hp → Prop), Takes X W → EnvOk X.K C H ρ σ Fs → (match s ρ with
    | .ok b ρ' => ∀ H' Fs', EnvOk X.K C H' ρ' σ Fs' → Q b H'
    | .ex x ρ' => ∀ H' Fs' cls dd, EnvOk X.K C H' ρ' σ Fs' → XRep X.K H' x cls dd → W cls dd σ H'
    | .bad => False) → WT X e σ H Q
def sB (s : ST) : SB := fun ρ => match s ρ with
  | some b => .ok b ρ
  | none => .bad
theorem PPT.x {s : ST} (h : PPT X e s) : PXT X e (sB s) := by
  refine ⟨fun C W ρ σ H Fs Q tk E hq => ?_⟩
  unfold sB at hq
  cases hs : s ρ with
  | none => rw [hs] at hq; exact hq.elim
  | some b =>
    rw [hs] at hq
    exact h.run C ρ σ H Fs b Q E hs fun H' s1 => hq H' Fs (E.same s1)
/-- a value True or False that may write, as a test -/
def sXB (s : SX) : SB := fun ρ => match s ρ with
  | .ok (.bl b) _ ρ' => .ok b ρ'
  | .ex x ρ' => .ex x ρ'
  | _ => .bad
theorem PX.tst (h : PX X e sx) (he : ∀ whole, isTrue e X.env whole = (do let v ← whole; standAt e.pos; holding [v] (truthy v)) := by intro _; rfl) : PXT X e (sXB sx) := by
  refine ⟨fun C W ρ σ H Fs Q tk E hq => WT.of (pt_val (we X e) he) (h.run C W ρ σ H Fs _ tk E ?_)⟩
  unfold sXB at hq
  cases hs : sx ρ with
  | bad => rw [hs] at hq; exact hq.elim
  | ex x ρ' => rw [hs] at hq; exact hq
  | ok d k ρ' =>
    rw [hs] at hq
    cases d with
    | bl b =>
      intro v H' F Fs' E' sh r
      exact ⟨b, r.rep.1, hq H' Fs' E'⟩
    | _ => exact hq.elim
def sIfS (c : SB) (t u : SS) : SS := fun ρ => match c ρ with
  | .ok true ρ' => t ρ'
  | .ok false ρ' => u ρ'
  | .ex x ρ' => .ex x ρ'
  | .bad => .bad
theorem dIfS {c : Expr} {sc : SB} (hc : PXT X c sc) (h1 : PSsd X sts t) (h2 : PSsd X els u) : PSd X (.If c sts els pos) (sIfS sc t u) := by
  refine ⟨fun C W Z ρ σ H Fs tk E h => WS.of (ps_if (wt X c) (wss X sts) (wss X els)) (hc.run C W ρ σ H Fs _ tk E ?_)⟩
  unfold sIfS at h
  cases hs : sc ρ with
  | bad => rw [hs] at h; exact h.elim
  | ex x ρ' => rw [hs] at h; exact fun H' Fs' cls dd E' xr => h H' σ Fs' cls dd E' xr
  | ok b ρ' =>
    rw [hs] at h
    cases b with
    | true => exact fun H' Fs' E' => iteT (h1.run C W Z ρ' σ H' Fs' tk E' h)
    | false => exact fun H' Fs' E' => iteF (h2.run C W Z ρ' σ H' Fs' tk E' h)
/-! ### return, an expression alone -/
def sRet (s : SX) : SS := fun ρ => match s ρ with
  | .ok d k ρ' => if d.imm = true then .rt d ρ' else (match k with
    | none => .rt d ρ'
    | some _ => .bad)
  | .ex x ρ' => .ex x ρ'
  | .bad => .bad
theorem dRet (he : PX X e sx) : PSd X (.Return (some e) pos) (sRet sx) := by
  refine ⟨fun C W Z ρ σ H Fs tk E h => WS.of (ps_ret (we X e)) (he.run C W ρ σ H Fs _ tk E ?_)⟩
  unfold sRet at h
  cases hs : sx ρ with
  | bad => rw [hs] at h; exact h.elim
  | ex x ρ' => rw [hs] at h; exact fun H' Fs' cls dd E' xr => h H' σ Fs' cls dd E' xr
  | ok d k ρ' =>
    rw [hs] at h
    intro v H' F Fs' E' sh r
    by_cases im : d.imm = true
    · simp only [im, if_true] at h
      have q := (Rep.im d v F im r.rep).2 true
      exact h H' σ Fs' v [] E' q List.nodup_nil fun a ha => by cases ha
    · simp only [im] at h
      cases k with
      | none =>
        obtain ⟨r1, r2, r3⟩ := r
        exact h H' σ Fs' v F E' r1 r2 fun a ha => ⟨(r3 a ha).1, fun i e hi => (r3 a ha).2 i e _ hi⟩
      | some R => exact h.elim
def sRetN : SS := fun ρ => .rt .non ρ
theorem dRetN : PSd X (.Return none pos) sRetN := ⟨fun C W Z ρ σ H Fs tk E h => WS.of ps_retN (h H σ Fs .non [] E ⟨rfl, rfl⟩ List.nodup_nil fun a ha => by cases ha)⟩
/-- return x, x a slot's own: it is handed on -/
def sRetV (i : Nat) : SS := fun ρ => match ρ[i]? with
  | some (some (d, .own)) => .rt d ρ
  | some (some (d, _)) => if d.imm = true then .rt d ρ else .bad
  | _ => .bad
theorem dRetV (i : Nat) {x : Str} {p : Pos} (hN : X.N[i]? = some x := by rfl) (hv : Vis X.env.scope x := by first | exact Or.inl rfl | exact Or.inr (Or.inl rfl) | exact Or.inr (Or.inr rfl)) (hd : (x == ("__debug__" : Str)) = false := by decide)
    (hcd : (x == ("__classdict__" : Str)) = false := by decide) : PSd X (.Return (some (.Name x p)) pos) (sRetV i) := by
  refine ⟨fun C W Z ρ σ H Fs tk E h => WS.of (ps_ret (pe_var hN hv hd hcd)) ?_⟩
  unfold sRetV at h
  split at h
  · rename_i d hs
    obtain ⟨v, hv', r⟩ := E.rep i d .own hs
    obtain ⟨n1, n2⟩ := E.nd i d .own hs rfl
    exact ⟨v, hv', h H σ Fs v (Fs i) E r n1 fun a ha => ⟨n2 a ha, fun j e hj hm => E.dis i j d .own e .arg (fun z => by
      subst z
      have q := hs.symm.trans hj
      cases q) hs rfl hj a ha hm⟩⟩
  · rename_i d m hne hs
    split at h
    · rename_i im
      obtain ⟨v, hv', r⟩ := E.rep i d _ hs
      exact ⟨v, hv', h H σ Fs v [] E ((Rep.im d v _ im r).2 true) List.nodup_nil fun a ha => by cases ha⟩
    · exact h.elim
  · exact h.elim
def sDrop (s : SX) : SS := fun ρ => match s ρ with
  | .ok _ _ ρ' => .nx ρ'
  | .ex x ρ' => .ex x ρ'
  | .bad => .bad
theorem dExpr (he : PX X e sx) (hs : swapsWith e none pos.line X.env = pure false := by rfl) : PSd X (.Expr e pos) (sDrop sx) := by
  refine ⟨fun C W Z ρ σ H Fs tk E h => WS.of (ps_expr (we X e) hs) (he.run C W ρ σ H Fs _ tk E ?_)⟩
  unfold sDrop at h
  cases hs : sx ρ with
  | bad => rw [hs] at h; exact h.elim
  | ex x ρ' => rw [hs] at h; exact fun H' Fs' cls dd E' xr => h H' σ Fs' cls dd E' xr
  | ok d k ρ' =>
    rw [hs] at h
    exact fun v H' F Fs' E' _ _ => h H' σ Fs' E'
/-! ### while -/
def runW (c : SB) (body : SS) : Nat → DEnv → Out
  | 0, _ => .bad
  | n + 1, ρ => match c ρ with
    | .ok false ρ' => .nx ρ'
    | .ok true ρ' => (match body ρ' with
      | .nx ρ2 => runW c body n ρ2
      | .ct ρ2 => runW c body n ρ2
      | .bk ρ2 => .nx ρ2
      | o => o)
    | .ex x ρ' => .ex x ρ'
    | .bad => .bad
theorem runW_more {c : SB} {body : SS} : ∀ (n : Nat) (ρ : DEnv), runW c body n ρ ≠ .bad → runW c body (n + 1) ρ = runW c body n ρ
  | 0, ρ, h => absurd rfl h
  | n + 1, ρ, h => by
    rw [runW] at h
    rw [runW, runW]
    cases hc : c ρ with
    | bad => rfl
    | ex x ρ' => rfl
    | ok b ρ' =>
      rw [hc] at h
      cases b with
      | false => rfl
      | true =>
        simp only at h ⊢
        cases hb : body ρ' with
        | nx ρ2 => rw [hb] at h; exact runW_more n ρ2 h
        | ct ρ2 => rw [hb] at h; exact runW_more n ρ2 h
        | _ => rfl
theorem runW_le {c : SB} {body : SS} {n m : Nat} {ρ : DEnv} (h : runW c body n ρ ≠ .bad) (hm : n ≤ m) : runW c body m ρ = runW c body n ρ := by
  induction hm with
  | refl => rfl
  | step _ ih => rw [runW_more _ _ (by rw [ih]; exact h), ih]
open Classical in
/-- what a while comes to -/
def sWhile (c : SB) (body : SS) : SS := fun ρ => if h : ∃ n, runW c body n ρ ≠ .bad then runW c body h.choose ρ else .bad
theorem sWhile_eq {c : SB} {body : SS} {n : Nat} {ρ : DEnv} (h : runW c body n ρ ≠ .bad) : sWhile c body ρ = runW c body n ρ := by
  have hex : ∃ n, runW c body n ρ ≠ .bad := ⟨n, h⟩
  unfold sWhile
  rw [dif_pos hex]
  rcases Nat.le_total n hex.choose with z | z
  · exact runW_le h z
  · exact (runW_le hex.choose_spec z).symm
theorem sWhile_run {c : SB} {body : SS} {ρ : DEnv} (h : sWhile c body ρ ≠ .bad) : ∃ n, sWhile c body ρ = runW c body n ρ ∧ runW c body n ρ ≠ .bad := by
  by_cases hex : ∃ n, runW c body n ρ ≠ .bad
  · obtain ⟨n, hn⟩ := hex
    exact ⟨n, sWhile_eq hn, hn⟩
  · unfold sWhile at h
    rw [dif_neg hex] at h
    exact absurd rfl h
/-- one turn -/
theorem sWhile_turn (c : SB) (body : SS) (ρ : DEnv) : sWhile c body ρ = match c ρ with
    | .ok false ρ' => .nx ρ'
    | .ok true ρ' => (match body ρ' with
      | .nx ρ2 => sWhile c body ρ2
      | .ct ρ2 => sWhile c body ρ2
      | .bk ρ2 => .nx ρ2
      | o => o)
    | .ex x ρ' => .ex x ρ'
    | .bad => .bad := by
  by_cases hex : ∃ n, runW c body n ρ ≠ .bad
  · obtain ⟨n, hn⟩ := hex
    rw [sWhile_eq hn]
    cases n with
    | zero => exact absurd rfl hn
    | succ n =>
      rw [runW] at hn
      rw [runW]
      cases hc : c ρ with
      | bad => rfl
      | ex x ρ' => rfl
      | ok b ρ' =>
        rw [hc] at hn
        cases b with
        | false => rfl
        | true =>
          simp only at hn ⊢
          cases hb : body ρ' with
          | nx ρ2 => rw [hb] at hn; exact (sWhile_eq hn).symm
          | ct ρ2 => rw [hb] at hn; exact (sWhile_eq hn).symm
          | _ => rfl
  · have e1 : sWhile c body ρ = .bad := by
      unfold sWhile
      rw [dif_neg hex]
    rw [e1]
    have all : ∀ n, runW c body (n + 1) ρ = .bad := fun n => Classical.byContradiction fun z => hex ⟨_, z⟩
    have sub : ∀ ρ2, (∀ n, runW c body n ρ2 = .bad) → sWhile c body ρ2 = .bad := fun ρ2 hz => by
      unfold sWhile
      rw [dif_neg fun ⟨n, hn⟩ => hn (hz n)]
    cases hc : c ρ with
    | bad => rfl
    | ex x ρ' => have := all 0; rw [runW, hc] at this; cases this
    | ok b ρ' =>
      cases b with
      | false => have := all 0; rw [runW, hc] at this; cases this
      | true =>
        simp only
        cases hb : body ρ' with
        | nx ρ2 =>
          simp only
          exact (sub ρ2 fun n => by have := all n; rw [runW, hc] at this; simp only [hb] at this; exact this).symm
        | ct ρ2 =>
          simp only
          exact (sub ρ2 fun n => by have := all n; rw [runW, hc] at this; simp only [hb] at this; exact this).symm
        | bk ρ2 => have := all 0; rw [runW, hc] at this; simp only [hb] at this; cases this
        | rt d ρ2 => have := all 0; rw [runW, hc] at this; simp only [hb] at this; cases this
        | ex x ρ2 => have := all 0; rw [runW, hc] at this; simp only [hb] at this; cases this
        | bad => rfl
theorem dWhile {c : Expr} {sc : SB} (hp : PassesOwn (model X.prog X.w) X.A X.env X.xe) (hc : PXT X c sc) (hb : PSsd X sts t) : PSd X (.While c sts [] pos) (sWhile sc t) := by
  refine ⟨fun C W Z ρ σ H Fs tk E h => WS.of (ps_while hp (wt X c) (wss X sts)) ?_⟩
  have hnb : sWhile sc t ρ ≠ .bad := fun z => by rw [z] at h; exact h
  obtain ⟨n, e1, _⟩ := sWhile_run hnb
  rw [e1] at h
  refine ⟨fun m σ H => ∃ ρ Fs, EnvOk X.K C H ρ σ Fs ∧ OutOk X.K C Z W (runW sc t m ρ), ⟨n, ρ, Fs, E, h⟩, ?_⟩
  rintro m σ1 H1 ⟨ρ1, Fs1, E1, h1⟩
  cases m with
  | zero => exact h1.elim
  | succ m =>
    rw [runW] at h1
    refine hc.run C W ρ1 σ1 H1 Fs1 _ tk E1 ?_
    cases hs : sc ρ1 with
    | bad => rw [hs] at h1; exact h1.elim
    | ex x ρ' => rw [hs] at h1; exact fun H' Fs' cls dd E' xr => h1 H' σ1 Fs' cls dd E' xr
    | ok b ρ' =>
      rw [hs] at h1
      cases b with
      | false => exact fun H' Fs' E' => iteF (h1 H' σ1 Fs' E')
      | true =>
        intro H' Fs' E'
        refine iteT ⟨fun σ2 H2 => ∃ ρ2 Fs2, EnvOk X.K C H2 ρ2 σ2 Fs2 ∧ OutOk X.K C Z W (runW sc t m ρ2), fun σ2 H2 q => ⟨m, Nat.lt_succ_self m, q⟩, ?_⟩
        refine hb.run C W _ ρ' σ1 H' Fs' tk E' ?_
        simp only at h1
        cases hbo : t ρ' with
        | nx ρ2 => rw [hbo] at h1; exact fun H2 σ2 Fs2 E2 => ⟨ρ2, Fs2, E2, h1⟩
        | ct ρ2 => rw [hbo] at h1; exact fun H2 σ2 Fs2 E2 => ⟨ρ2, Fs2, E2, h1⟩
        | bk ρ2 => rw [hbo] at h1; exact h1
        | rt d ρ2 => rw [hbo] at h1; exact h1
        | ex x ρ2 => rw [hbo] at h1; exact h1
        | bad => rw [hbo] at h1; exact h1
/-! ### what a loop walks -/
/-- tuples and read-only things of H, and what stands at F -/
def keepH (H : Hp) (F : List Addr) : Hp := fun b => match H b with
  | some (.lst xs) => if b ∈ F then some (.lst xs) else none
  | some (.dK xs) => if b ∈ F then some (.dK xs) else none
  | some (.dT xs) => if b ∈ F then some (.dT xs) else none
  | x => x
theorem keepH_same (H : Hp) (F : List Addr) : Same (keepH H F) H := fun b o h => by
  unfold keepH at h
  split at h
  · rename_i e
    split at h
    · rw [e]; exact h
    · cases h
  · rename_i e
    split at h
    · rw [e]; exact h
    · cases h
  · rename_i e
    split at h
    · rw [e]; exact h
    · cases h
  · exact h
theorem keepH_kp {H H' : Hp} {F : List Addr} (s : Same (keepH H F) H') : Kp H H' :=
  ⟨fun a o e hm => s a _ (by
    unfold keepH
    rw [e]
    cases o <;> first | rfl | exact absurd trivial hm)⟩
theorem keepH_at {H H' : Hp} {F : List Addr} (s : Same (keepH H F) H') {a : Addr} {u : HO} (ha : a ∈ F) (e : H a = some u) (m : Mu u) : H' a = H a := by
  rw [e]
  refine s a u ?_
  unfold keepH
  rw [e]
  cases u <;> first
    | exact m.elim
    | exact if_pos ha
theorem keepH_none {H : Hp} {F : List Addr} {a : Addr} {u : HO} (e : H a = some u) (m : Mu u) (ha : a ∉ F) : keepH H F a = none := by
  unfold keepH
  rw [e]
  cases u <;> first
    | exact m.elim
    | exact if_neg ha
/-- the walk's items, while P1 stands -/
structure ItOk (K : PySem.W.Frag) (J : It) (P1 : Hp) (ds : List D) (F : List Addr) : Prop where
  go : ∀ i H, Same P1 H → i < ds.length → J.go i H
  yld : ∀ i H x H' d, Same P1 H → ds[i]? = some d → J.yld i H x H' → Same H H' ∧ ∃ G, (∀ a ∈ G, a ∈ F) ∧ Rep K H' false d x G
  stop : ∀ i H, Same P1 H → ds.length ≤ i → J.stop i H
abbrev SI := DEnv → Option (List D × Kd)
/-- what a for or a comprehension walks; k: whether it may be parts of slots -/
structure PPI (X : Cx) (tg iter : Expr) (s : SI) : Prop where
  run : ∀ (C : Ct) (ρ : DEnv) (σ : L2.St) (H : Hp) (Fs : Nat → List Addr) (ds : List D) (k : Kd) (R : It → Hp → Prop), EnvOk X.K C H ρ σ Fs → s ρ = some (ds, k) →
    (∀ J H1 F, Same H H1 → (∀ a ∈ F, ∃ u, H1 a = some u ∧ Mu u) → (∀ a ∈ F, H a = none ∨ ∃ S, k = some S ∧ ∃ i ∈ S, a ∈ Fs i) → ItOk X.K J (keepH H1 F) ds F → R J H1) → WI X tg iter σ H R
theorem RepR.mem {K : PySem.W.Frag} {H0 : Hp} {k : Kd} {d : D} {v : V} {F : List Addr} (r : RepR K H0 H Fs k d v F) : ∀ a ∈ F, H0 a = none ∨ ∃ S, k = some S ∧ ∃ i ∈ S, a ∈ Fs i := fun a ha => by
  cases k with
  | none => exact .inl (r.2.2 a ha)
  | some S => exact (r.2 a ha).imp id fun z => ⟨S, rfl, z⟩
/-- over a list (a read-only one, a tuple) -/
def sIt (s : SE) : SI := fun ρ => match s ρ with
  | some (.lst ds, k) => some (ds, k)
  | some (.rol ds, k) => some (ds, k)
  | _ => none
def sItT (s : SE) : SI := fun ρ => match s ρ with
  | some (.tup ds, k) => some (ds, k)
  | _ => none
theorem reps_keep {K : PySem.W.Frag} {H H1 : Hp} {F G : List Addr} {ds : List D} {vs : List V} (s : Same (keepH H1 F) H) (hG : ∀ a ∈ G, a ∈ F) (r : Reps K H1 false ds vs G) : Reps K H false ds vs G :=
  Reps.kp (keepH_kp s) ds vs G r fun a ha => by
    obtain ⟨u, e, m⟩ := Reps.tr ds vs G r a ha
    exact keepH_at s (hG a ha) e m
theorem iIt {tg : Expr} (h : PP X e s) : PPI X tg e (sIt s) := by
  refine ⟨fun C ρ σ H Fs ds k R E hs q => WI.of (pi_list (we X e)) ?_⟩
  unfold sIt at hs
  split at hs
  · rename_i es k1 h1
    cases hs
    refine h.run C ρ σ H Fs _ k _ E h1 fun v H1 F s1 r1 => ?_
    have tr : ∀ a ∈ F, ∃ u, H1 a = some u ∧ Mu u := Rep.tr _ v F r1.rep
    have hm := r1.mem
    obtain ⟨a, vs, G, rfl, hl, rfl, r2⟩ := r1.lst
    have st : ∀ H', Same (keepH H1 (a :: G)) H' → SqL X.K H' a vs ∧ Reps X.K H' false ds vs G := fun H' s =>
      ⟨SqL.of (by rw [keepH_at s List.mem_cons_self hl trivial]; exact hl), reps_keep s (fun b hb => List.mem_cons_of_mem _ hb) r2.rep⟩
    refine ⟨a, rfl, ⟨vs, SqL.of hl⟩, q _ H1 (a :: G) s1 tr hm ⟨fun i H' s hi => ?_, fun i H' x H2 d s hd hy => ?_, fun i H' s hi => ?_⟩⟩
    · obtain ⟨h2, r3⟩ := st H' s
      have hlt : i < vs.length := by rw [Reps.len r3]; exact hi
      exact ⟨vs, vs[i], h2, List.getElem?_eq_getElem hlt⟩
    · obtain ⟨h2, r3⟩ := st H' s
      obtain ⟨rfl, hx⟩ := hy
      obtain ⟨w, G', e1, r4, sub⟩ := Reps.get r3 hd
      have := hx vs h2
      rw [e1] at this
      cases this
      exact ⟨Same.refl _, G', fun b hb => List.mem_cons_of_mem _ (sub.subset hb), r4⟩
    · obtain ⟨h2, r3⟩ := st H' s
      exact ⟨vs, h2, by rw [Reps.len r3]; exact hi⟩
  · rename_i es k1 h1
    cases hs
    refine h.run C ρ σ H Fs _ k _ E h1 fun v H1 F s1 r1 => ?_
    have tr : ∀ a ∈ F, ∃ u, H1 a = some u ∧ Mu u := Rep.tr _ v F r1.rep
    have hm := r1.mem
    obtain ⟨a, vs, rfl, hl, hr⟩ := r1.rep
    have st : ∀ H', Same (keepH H1 F) H' → SqL X.K H' a vs ∧ Reps X.K H' false ds vs F := fun H' s => ⟨(roL_kp (keepH_kp s) hl).sq, reps_keep s (fun b hb => hb) hr⟩
    refine ⟨a, rfl, ⟨vs, hl.sq⟩, q _ H1 F s1 tr hm ⟨fun i H' s hi => ?_, fun i H' x H2 d s hd hy => ?_, fun i H' s hi => ?_⟩⟩
    · obtain ⟨h2, r3⟩ := st H' s
      have hlt : i < vs.length := by rw [Reps.len r3]; exact hi
      exact ⟨vs, vs[i], h2, List.getElem?_eq_getElem hlt⟩
    · obtain ⟨h2, r3⟩ := st H' s
      obtain ⟨rfl, hx⟩ := hy
      obtain ⟨w, G', e1, r4, sub⟩ := Reps.get r3 hd
      have := hx vs h2
      rw [e1] at this
      cases this
      exact ⟨Same.refl _, G', fun b hb => sub.subset hb, r4⟩
    · obtain ⟨h2, r3⟩ := st H' s
      exact ⟨vs, h2, by rw [Reps.len r3]; exact hi⟩
  · cases hs
theorem iItT {tg : Expr} (h : PP X e s) : PPI X tg e (sItT s) := by
  refine ⟨fun C ρ σ H Fs ds k R E hs q => WI.of (pi_tup (we X e)) ?_⟩
  unfold sItT at hs
  split at hs
  · rename_i es k1 h1
    cases hs
    refine h.run C ρ σ H Fs _ k _ E h1 fun v H1 F s1 r1 => ?_
    have tr : ∀ a ∈ F, ∃ u, H1 a = some u ∧ Mu u := Rep.tr _ v F r1.rep
    have hm := r1.mem
    obtain ⟨a, vs, rfl, hl, hr⟩ := r1.rep
    have st : ∀ H', Same (keepH H1 F) H' → SqT X.K H' a vs ∧ Reps X.K H' false ds vs F := fun H' s => ⟨SqT.of ((keepH_kp s).tup _ _ hl), reps_keep s (fun b hb => hb) hr⟩
    refine ⟨a, rfl, ⟨vs, SqT.of hl⟩, q _ H1 F s1 tr hm ⟨fun i H' s hi => ?_, fun i H' x H2 d s hd hy => ?_, fun i H' s hi => ?_⟩⟩
    · obtain ⟨h2, r3⟩ := st H' s
      have hlt : i < vs.length := by rw [Reps.len r3]; exact hi
      exact ⟨vs, vs[i], h2, List.getElem?_eq_getElem hlt⟩
    · obtain ⟨h2, r3⟩ := st H' s
      obtain ⟨rfl, hx⟩ := hy
      obtain ⟨w, G', e1, r4, sub⟩ := Reps.get r3 hd
      have := hx vs h2
      rw [e1] at this
      cases this
      exact ⟨Same.refl _, G', fun b hb => sub.subset hb, r4⟩
    · obtain ⟨h2, r3⟩ := st H' s
      exact ⟨vs, h2, by rw [Reps.len r3]; exact hi⟩
  · cases hs
/-- range(n), range(m, n) -/
def rngD (lo : Int) (n : Nat) : List D := (List.range n).map fun i => D.int (lo + (i : Nat))
theorem rngD_get {lo : Int} {n i : Nat} (h : i < n) : (rngD lo n)[i]? = some (.int (lo + (i : Nat))) := by
  unfold rngD
  rw [List.getElem?_map, List.getElem?_range h]
  rfl
def sRng (t : SA) : SI := fun ρ => match t ρ with
  | some [(.int j, _)] => if okP (-(2 ^ 62) ≤ j ∧ j < 2 ^ 62) = true then some (rngD 0 j.toNat, none) else none
  | _ => none
def sRng2 (t : SA) : SI := fun ρ => match t ρ with
  | some [(.int i, _), (.int j, _)] => if okP (-(2 ^ 62) ≤ i ∧ i < 2 ^ 62 ∧ -(2 ^ 62) ≤ j ∧ j < 2 ^ 62) = true then some (rngD i (j - i).toNat, none) else none
  | _ => none
theorem it_rng {K : PySem.W.Frag} {lo : Int} {n : Nat} {P1 : Hp} {F : List Addr} : ItOk K (Itr lo n) P1 (rngD lo n) F := by
  have hl : (rngD lo n).length = n := by simp [rngD]
  refine ⟨fun i H s hi => by rw [hl] at hi; exact hi, fun i H x H' d s hd hy => ?_, fun i H s hi => by rw [hl] at hi; exact hi⟩
  obtain ⟨rfl, rfl⟩ := hy
  have hi : i < n := by
    have := (List.getElem?_eq_some_iff.mp hd).1
    rw [hl] at this
    exact this
  rw [rngD_get hi] at hd
  cases hd
  exact ⟨Same.refl _, [], (fun a ha => by cases ha), rfl, rfl⟩
theorem iRng1 {tg : Expr} {p : Pos} {t : SA} (hg : Gl X "range") (hm : X.mg "range" = none) (ha : PPA X [a] t) (hs : starEach [a] X.env = [(false, eval a X.env)] := by rfl) : PPI X tg (.Call (.Name "range" p) [a] [] pos) (sRng t) := by
  refine ⟨fun C ρ σ H Fs ds k R E h q => WI.of (pi_range1 hg hm (wa X [a]) hs) ?_⟩
  unfold sRng at h
  split at h
  · rename_i j k1 h1
    split at h
    · rename_i hj0
      have hj := okP_iff.mp hj0
      cases h
      refine ha.run C ρ σ H Fs _ _ E h1 fun vs H1 Gs s1 r => ?_
      obtain ⟨v, rfl, r1⟩ := reps1 r.all.rep
      exact ⟨j, by rw [r1.1], hj.1, hj.2, q _ H1 [] s1 (fun a ha => by cases ha) (fun a ha => by cases ha) it_rng⟩
    · cases h
  · cases h
theorem iRng2 {tg : Expr} {p : Pos} {t : SA} (hg : Gl X "range") (hm : X.mg "range" = none) (ha : PPA X [a, b] t) (hs : starEach [a, b] X.env = [(false, eval a X.env), (false, eval b X.env)] := by rfl) (hs2 : starEach [b] X.env = [(false, eval b X.env)] := by rfl) : PPI X tg (.Call (.Name "range" p) [a, b] [] pos) (sRng2 t) := by
  refine ⟨fun C ρ σ H Fs ds k R E h q => WI.of (pi_range2 hg hm (wa X [a, b]) hs hs2) ?_⟩
  unfold sRng2 at h
  split at h
  · rename_i i k1 j k2 h1
    split at h
    · rename_i hj0
      have hj := okP_iff.mp hj0
      cases h
      refine ha.run C ρ σ H Fs _ _ E h1 fun vs H1 Gs s1 r => ?_
      obtain ⟨v, v', _, _, rfl, r1, r2⟩ := reps2 r.all.rep
      exact ⟨i, j, by rw [r1.1, r2.1], hj, q _ H1 [] s1 (fun a ha => by cases ha) (fun a ha => by cases ha) it_rng⟩
    · cases h
  · cases h
/-! ### for -/
def loopS (g : SG) (body : SS) : List D → DEnv → Out
  | [], ρ => .nx ρ
  | d :: r, ρ => match g d (some []) ρ with
    | none => .bad
    | some ρ1 => (match body ρ1 with
      | .nx ρ2 => loopS g body r ρ2
      | .ct ρ2 => loopS g body r ρ2
      | .bk ρ2 => .nx ρ2
      | o => o)
def frzK (k : Kd) (ρ : DEnv) : Option DEnv := match k with
  | none => some ρ
  | some R => frz R 0 ρ
def sFor (it : SI) (g : SG) (body : SS) : SS := fun ρ => match it ρ with
  | some (ds, k) => (match frzK k ρ with
    | some ρ1 => loopS g body ds ρ1
    | none => .bad)
  | none => .bad
theorem OutOk.less {P' : Hp} {Z : Ends} {W : WX} {o : Out} (s : Same P' C.P) (h : OutOk X.K ⟨P', C.pin⟩ Z W o) : OutOk X.K C Z W o := by
  cases o with
  | nx ρ => exact fun H σ Fs E => h H σ Fs (E.less s)
  | ct ρ => exact fun H σ Fs E => h H σ Fs (E.less s)
  | bk ρ => exact fun H σ Fs E => h H σ Fs (E.less s)
  | rt d ρ => exact fun H σ Fs v F E r n q => h H σ Fs v F (E.less s) r n fun a ha => ⟨s.free (q a ha).1, (q a ha).2⟩
  | ex x ρ => exact fun H σ Fs cls d E r => h H σ Fs cls d (E.less s) r
  | bad => exact h
/-- what stands still, and more: P or else Q -/
def orH (P Q : Hp) : Hp := fun b => match P b with
  | some o => some o
  | none => Q b
theorem for_at {is : List Nat} {tg iter : Expr} {it : SI} {g : SG} {C : Ct} {W : WX} {Z : Ends} {ρ : DEnv} {σ : L2.St} {H : Hp} {Fs : Nat → List Addr} (hp : PassesOwn (model X.prog X.w) X.A X.env X.xe) (hc : X.calm = true)
    (hi : ∀ (ds : List D) (k : Kd) (R : It → Hp → Prop), it ρ = some (ds, k) → (∀ J H1 F, Same H H1 → (∀ a ∈ F, ∃ u, H1 a = some u ∧ Mu u) → (∀ a ∈ F, H a = none ∨ ∃ S, k = some S ∧ ∃ i ∈ S, a ∈ Fs i) → ItOk X.K J (keepH H1 F) ds F → R J H1) → WI X tg iter σ H R)
    (hg : PGd X tg is g) (hb : PSsd X sts t) (tk : Takes X W) (E : EnvOk X.K C H ρ σ Fs) (h : OutOk X.K C Z W (sFor it g t ρ))
    (hs : ∀ x, foldedSetIterable iter X.env x = pure x := by intro _; rfl) : WS X (.For tg iter sts [] pos) Z σ H := by
  refine WS.of (ps_for hp hc (wi X tg iter) (wg tg) (wss X sts) hs) ?_
  unfold sFor at h
  cases hit : it ρ with
  | none => rw [hit] at h; exact h.elim
  | some p =>
    obtain ⟨ds, k⟩ := p
    rw [hit] at h
    simp only at h
    cases hfr : frzK k ρ with
    | none => rw [hfr] at h; exact h.elim
    | some ρ1 =>
      rw [hfr] at h
      simp only at h
      refine hi ds k _ hit fun J H1 F s1 tr hm io => ?_
      have E1 : EnvOk X.K C H1 ρ1 σ Fs := by
        cases k with
        | none => cases hfr; exact E.same s1
        | some R => exact (E.same s1).frz hfr
      -- the walked things stand still
      have own1 : ∀ i d m, Has ρ1 i d m → m.o = true → ∀ a ∈ Fs i, a ∉ F := fun i d m hh ho a ha hF => by
        obtain ⟨u, eu, _⟩ := E.trA ha
        rcases hm a hF with z | ⟨S, rfl, j, hj, hja⟩
        · rw [z] at eu; cases eu
        · obtain ⟨hl, hgz, _⟩ := frz_spec (show frz S 0 ρ = some ρ1 from hfr)
          obtain ⟨m0, e0, q1, _, q3⟩ := hgz i d m hh
          have hiS : i ∉ S := by simpa using q3 ho
          have hij : i ≠ j := fun z => hiS (z ▸ hj)
          by_cases hjj : ∃ f q, Has ρ j f q
          · obtain ⟨f, q, hjj⟩ := hjj
            exact E.dis i j d m0 f q hij e0 (by rw [q1 ho]; exact ho) hjj a ha hja
          · rw [E.non j fun f q z => hjj ⟨f, q, z⟩] at hja
            cases hja
      let P' : Hp := orH C.P (keepH H1 F)
      have sP : Same C.P P' := fun b o e => by show orH _ _ b = _; unfold orH; rw [e]
      have sK : Same (keepH H1 F) P' := fun b o e => by
        show orH _ _ b = _
        unfold orH
        cases hb : C.P b with
        | none => exact e
        | some o' =>
          have z := E1.prot b o' hb
          have z2 := keepH_same H1 F b o e
          rw [z] at z2
          rw [z2]
      have E2 : EnvOk X.K ⟨P', C.pin⟩ H1 ρ1 σ Fs := by
        refine ⟨E1.len, E1.rep, fun i d m hh ho => ⟨(E1.nd i d m hh ho).1, fun a ha => ?_⟩, E1.dis, fun b o e => ?_, E1.arg, E1.non⟩
        · show orH _ _ a = none
          unfold orH
          rw [(E1.nd i d m hh ho).2 a ha]
          obtain ⟨u, eu, mu⟩ := E1.trA ha
          exact keepH_none eu mu (own1 i d m hh ho a ha)
        · have e : orH C.P (keepH H1 F) b = some o := e
          unfold orH at e
          cases hb : C.P b with
          | some o' => rw [hb] at e; exact (E1.prot b o' hb).trans e
          | none => rw [hb] at e; exact keepH_same H1 F b o e
      have h2 : OutOk X.K ⟨P', C.pin⟩ Z W (loopS g t ds ρ1) := OutOk.less (C := ⟨P', C.pin⟩) sP h
      refine ⟨fun i m σ H => m = ds.length - i ∧ i ≤ ds.length ∧ ∃ ρ Fs, EnvOk X.K ⟨P', C.pin⟩ H ρ σ Fs ∧ OutOk X.K ⟨P', C.pin⟩ Z W (loopS g t (ds.drop i) ρ), ⟨ds.length, by simp, Nat.zero_le _, ρ1, Fs, E2, by simpa using h2⟩, ?_⟩
      rintro i m σ3 H3 ⟨rfl, hi, ρ3, Fs3, E3, h3⟩
      have sK3 : Same (keepH H1 F) H3 := sK.trans E3.prot
      by_cases hlt : i < ds.length
      · refine .inr ⟨io.go i H3 sK3 hlt, fun σ' H' => i + 1 ≤ ds.length ∧ ∃ ρ Fs, EnvOk X.K ⟨P', C.pin⟩ H' ρ σ' Fs ∧ OutOk X.K ⟨P', C.pin⟩ Z W (loopS g t (ds.drop (i + 1)) ρ), fun σ' H' q => ⟨ds.length - (i + 1), by omega, rfl, q.1, q.2⟩, fun x H' hy => ?_⟩
        obtain ⟨s4, G, hG, r4⟩ := io.yld i H3 x H' ds[i] sK3 (List.getElem?_eq_getElem hlt) hy
        rw [List.drop_eq_getElem_cons hlt] at h3
        rw [loopS] at h3
        cases hgo : g ds[i] (some []) ρ3 with
        | none => rw [hgo] at h3; exact h3.elim
        | some ρ4 =>
          rw [hgo] at h3
          simp only at h3
          have E4 := E3.same s4
          refine hg.run ⟨P', C.pin⟩ ρ3 ρ4 σ3 H' Fs3 ds[i] (some []) x G _ E4 ⟨r4, fun a ha j e n hh ho _ hja => ?_⟩ hgo fun σ5 Fs5 E5 _ _ => ?_
          · -- the item lies in what stands still
            obtain ⟨u, eu, mu⟩ := tr a (hG a ha)
            have hk : keepH H1 F a = some u := by
              unfold keepH
              rw [eu]
              cases u <;> first
                | exact mu.elim
                | exact if_pos (hG a ha)
            have := (E3.nd j e n hh ho).2 a hja
            rw [show (Ct.mk P' C.pin).P a = some u from sK a u hk] at this
            cases this
          · refine hb.run ⟨P', C.pin⟩ W _ ρ4 σ5 H' Fs5 tk E5 ?_
            cases hbo : t ρ4 with
            | nx ρ6 => rw [hbo] at h3; exact fun H6 σ6 Fs6 E6 => ⟨hlt, ρ6, Fs6, E6, h3⟩
            | ct ρ6 => rw [hbo] at h3; exact fun H6 σ6 Fs6 E6 => ⟨hlt, ρ6, Fs6, E6, h3⟩
            | bk ρ6 => rw [hbo] at h3; exact h3
            | rt d ρ6 => rw [hbo] at h3; exact h3
            | ex x ρ6 => rw [hbo] at h3; exact h3
            | bad => rw [hbo] at h3; exact h3
      · have e : i = ds.length := by omega
        subst e
        refine .inl ⟨io.stop _ H3 sK3 (Nat.le_refl _), ?_⟩
        rw [List.drop_length] at h3
        exact h3 H3 σ3 Fs3 E3
theorem dFor {is : List Nat} {tg iter : Expr} {it : SI} {g : SG} (hp : PassesOwn (model X.prog X.w) X.A X.env X.xe) (hc : X.calm = true) (hi : PPI X tg iter it) (hg : PGd X tg is g) (hb : PSsd X sts t)
    (hs : ∀ x, foldedSetIterable iter X.env x = pure x := by intro _; rfl) : PSd X (.For tg iter sts [] pos) (sFor it g t) :=
  ⟨fun C W Z ρ σ H Fs tk E h => for_at hp hc (fun ds k R e q => hi.run C ρ σ H Fs ds k R E e q) hg hb tk E h hs⟩
end
end DL
end DLsec6
set_option maxRecDepth 100000
/-! DL7: comprehensions, more walks, defs and their calls. -/
noncomputable section DLsec7
namespace DL
open PySem PySem.Spec PyProof.Rows L2
section
variable {X : Cx} {C : Ct} {ρ : DEnv} {σ : L2.St} {H : Hp} {Fs : Nat → List Addr} {a b e : Expr} {s : SE} {sx : SX} {pos : Pos}
/-! ### a text, sign by sign -/
def signsD (x : Str) : List D := x.cps.toList.map fun c => .str ⟨#[c]⟩
def sItS (s : SE) : SI := fun ρ => match s ρ with
  | some (.str x, _) => some (signsD x, none)
  | _ => none
theorem iItS {tg : Expr} (h : PP X e s) : PPI X tg e (sItS s) := by
  refine ⟨fun C ρ σ H Fs ds k R E hs q => WI.of (pi_str (we X e)) ?_⟩
  unfold sItS at hs
  split at hs
  · rename_i x k1 h1
    cases hs
    refine h.run C ρ σ H Fs _ k1 _ E h1 fun v H1 F s1 r1 => ⟨x, r1.rep.1, q _ H1 [] s1 (fun a ha => by cases ha) (fun a ha => by cases ha) ?_⟩
    have hl : (signsD x).length = x.cps.size := by simp [signsD]
    refine ⟨fun i H s hi => by rw [hl] at hi; exact hi, fun i H y H' d s hd hy => ?_, fun i H s hi => by rw [hl] at hi; exact hi⟩
    obtain ⟨rfl, c, hc, rfl⟩ := hy
    unfold signsD at hd
    rw [List.getElem?_map] at hd
    have hc' : x.cps.toList[i]? = some c := by rw [Array.getElem?_toList]; exact hc
    rw [hc'] at hd
    cases hd
    exact ⟨Same.refl _, [], (fun a ha => by cases ha), rfl, rfl⟩
  · cases hs
/-! ### comprehensions that write nothing -/
structure PPTs (X : Cx) (ifs : List Expr) (s : ST) : Prop where
  run : ∀ (C : Ct) (ρ : DEnv) (σ : L2.St) (H : Hp) (Fs : Nat → List Addr) (b : Bool) (Q : Bool → Hp → Prop), EnvOk X.K C H ρ σ Fs → s ρ = some b → (∀ H', Same H H' → Q b H') →
    ∀ (pins : List (Addr × Obj)) (s' : Shared), Inv X pins σ H s' → wpAny (model X.prog X.w) X.A (forIn ifs true fun c r => if r = true then do let ok ← isTrue c X.env (eval c X.env); pure (ForInStep.yield ok) else pure (ForInStep.yield r)) (TP X pins σ Q) X.xe s'
def tYesS : ST := fun _ => some true
theorem tNil : PPTs X [] tYesS := ⟨fun C ρ σ H Fs b Q E h q pins s' I => by
  cases h
  exact pts_nil.run pins s' σ H Q I (q H (Same.refl H))⟩
theorem tOne {c : Expr} {t : ST} (h : PPT X c t) : PPTs X [c] t := ⟨fun C ρ σ H Fs b Q E hs q pins s' I =>
  (pts_one (wt X c)).run pins s' σ H Q I (h.run C ρ σ H Fs b Q E hs q)⟩
def wipeD (ρ : DEnv) : List Nat → DEnv
  | [] => ρ
  | v :: vs => (wipeD ρ vs).set v none
theorem wipeD_length (ρ : DEnv) : ∀ vs, (wipeD ρ vs).length = ρ.length
  | [] => rfl
  | v :: vs => by rw [wipeD, List.length_set, wipeD_length ρ vs]
theorem wipeD_has {ρ : DEnv} {i : Nat} {d : D} {m : Md} : ∀ {vs : List Nat}, Has (wipeD ρ vs) i d m → Has ρ i d m ∧ i ∉ vs
  | [], h => ⟨h, by simp⟩
  | v :: vs, h => by
    have h : ((wipeD ρ vs).set v none)[i]? = some (some (d, m)) := h
    by_cases hi : v = i
    · subst hi
      by_cases hv : v < (wipeD ρ vs).length
      · rw [List.getElem?_set_self hv] at h; cases h
      · rw [List.getElem?_eq_none (by simpa using hv)] at h; cases h
    · rw [List.getElem?_set_ne hi] at h
      obtain ⟨h1, h2⟩ := wipeD_has h
      exact ⟨h1, by simp only [List.mem_cons, not_or]; exact ⟨fun z => hi z.symm, h2⟩⟩
theorem wipe_get {σ : L2.St} {i : Nat} : ∀ {vs : List Nat}, i ∉ vs → (wipe σ vs)[i]? = σ[i]?
  | [], _ => rfl
  | v :: vs, h => by
    simp only [List.mem_cons, not_or] at h
    rw [wipe, List.getElem?_set_ne (fun z => h.1 z.symm)]
    exact wipe_get h.2
theorem wipe_get' {σ : L2.St} {i : Nat} : ∀ {vs : List Nat}, i ∈ vs → (wipe σ vs)[i]? = if i < σ.length then some none else none
  | v :: vs, h => by
    rw [wipe]
    by_cases hv : v = i
    · subst hv
      by_cases hl : v < σ.length
      · rw [List.getElem?_set_self (by rw [wipe_length]; exact hl), if_pos hl]
      · rw [List.getElem?_eq_none (by rw [List.length_set, wipe_length]; omega), if_neg hl]
    · rw [List.getElem?_set_ne hv]
      rcases List.mem_cons.mp h with z | z
      · exact absurd z.symm hv
      · exact wipe_get' z
theorem wipe_eq {σ σ' : L2.St} {vs : List Nat} (hl : σ'.length = σ.length) (h : ∀ j, j ∉ vs → σ'[j]? = σ[j]?) : wipe σ' vs = wipe σ vs := by
  apply List.ext_getElem?
  intro i
  by_cases hi : i ∈ vs
  · rw [wipe_get' hi, wipe_get' hi, hl]
  · rw [wipe_get hi, wipe_get hi, h i hi]
theorem wipe_wipe {σ : L2.St} {vs : List Nat} : wipe (wipe σ vs) vs = wipe σ vs := wipe_eq (wipe_length σ vs) fun j hj => wipe_get hj
theorem EnvOk.wipe {K : PySem.W.Frag} (E : EnvOk K C H ρ σ Fs) (vs : List Nat) : EnvOk K C H (wipeD ρ vs) (L2.wipe σ vs) (fun j => if j ∈ vs then [] else Fs j) := by
  refine ⟨by rw [wipe_length, wipeD_length]; exact E.len, fun i d m h => ?_, fun i d m h o => ?_, fun i j d m e n hij h o h' => ?_, E.prot, fun i d h => ?_, fun i h => ?_⟩
  · obtain ⟨h1, h2⟩ := wipeD_has h
    obtain ⟨v, q1, q2⟩ := E.rep i d m h1
    exact ⟨v, by rw [wipe_get h2]; exact q1, by simp only [h2, if_false]; exact q2⟩
  · obtain ⟨h1, h2⟩ := wipeD_has h
    simp only [h2, if_false]
    exact E.nd i d m h1 o
  · obtain ⟨h1, h2⟩ := wipeD_has h
    obtain ⟨h1', h2'⟩ := wipeD_has h'
    simp only [h2, h2', if_false]
    exact E.dis i j d m e n hij h1 o h1'
  · obtain ⟨h1, h2⟩ := wipeD_has h
    rw [wipe_get h2]
    exact E.arg i d h1
  · by_cases hi : i ∈ vs
    · simp only [hi, if_true]
    · simp only [hi, if_false]
      refine E.non i fun d m z => h d m ?_
      have : ∀ vs : List Nat, i ∉ vs → Has (wipeD ρ vs) i d m := fun vs => by
        induction vs with
        | nil => intro _; exact z
        | cons w ws ih =>
          intro hn
          simp only [List.mem_cons, not_or] at hn
          show ((wipeD ρ ws).set w none)[i]? = _
          rw [List.getElem?_set_ne (fun q => hn.1 q.symm)]
          exact ih hn.2
      exact this vs hi
/-- what the elements come to: each nobody else's -/
def lcS (k : Kd) (g : SG) (tt : ST) (te : SE) : List D → DEnv → Option (List D)
  | [], _ => some []
  | d :: r, ρ => match g d k ρ with
    | none => none
    | some ρ1 => (match tt ρ1 with
      | none => none
      | some false => lcS k g tt te r ρ
      | some true => (match te ρ1 with
        | none => none
        | some (y, ky) => if y.imm = true ∨ ky = none then (match lcS k g tt te r ρ with
          | none => none
          | some ys => some (y :: ys)) else none))
def kOr : Kd → Kd
  | none => some []
  | k => k
def sLc (it : SI) (vs : List Nat) (g : SG) (tt : ST) (te : SE) : SE := fun ρ => match it ρ with
  | some (ds, k) => (match lcS (kOr k) g tt te ds (wipeD ρ vs) with
    | some ys => if okP (ds.length ≤ sizeLine) = true then some (.lst ys, none) else none
    | none => none)
  | none => none
theorem lcS_len {k : Kd} {g : SG} {tt : ST} {te : SE} : ∀ {ds ys : List D} {ρ : DEnv}, lcS k g tt te ds ρ = some ys → ys.length ≤ ds.length
  | [], ys, ρ, h => by cases h; exact Nat.le_refl _
  | d :: r, ys, ρ, h => by
    unfold lcS at h
    split at h
    · cases h
    · split at h
      · cases h
      · have := lcS_len h
        simp only [List.length_cons]; omega
      · split at h
        · cases h
        · split at h
          · split at h
            · cases h
            · rename_i ys' e
              cases h
              have := lcS_len e
              simp only [List.length_cons]; omega
          · cases h
section
variable {elt tg iter : Expr} {ifs : List Expr} {scope : Scope} {own : List (Str × Nat)} {it : SI} {g : SG} {tt : ST} {te : SE} {is : List Nat}
/-- wishes for a block's parts, wherever it starts -/
def WGa (X : Cx) (scope : Scope) (tg : Expr) : TG := fun v σ H Q => ∀ (s : Shared) (H0 : Hp) (C : Addr) (cl : List (Str × Addr)) (fp : List Addr), WG (X.blk s H0 scope (compEnvC scope cl C X.env) fp) tg v σ H Q
def WTa (X : Cx) (scope : Scope) (ifs : List Expr) : TT := fun σ H Q => ∀ (s : Shared) (H0 : Hp) (C : Addr) (cl : List (Str × Addr)) (fp : List Addr) (pins : List (Addr × Obj)) (s' : Shared), Inv (X.blk s H0 scope (compEnvC scope cl C X.env) fp) pins σ H s' →
  wpAny (model X.prog X.w) X.A (forIn ifs true fun c r => if r = true then do let ok ← isTrue c (compEnvC scope cl C X.env) (eval c (compEnvC scope cl C X.env)); pure (ForInStep.yield ok) else pure (ForInStep.yield r)) (TP (X.blk s H0 scope (compEnvC scope cl C X.env) fp) pins σ Q) (fun _ _ => False) s'
def WEa (X : Cx) (scope : Scope) (elt : Expr) : TE := fun σ H Q => ∀ (s : Shared) (H0 : Hp) (C : Addr) (cl : List (Str × Addr)) (fp : List Addr), WE (X.blk s H0 scope (compEnvC scope cl C X.env) fp) elt σ H Q
theorem wga (s : Shared) (H : Hp) (C : Addr) (cl : List (Str × Addr)) (fp : List Addr) : PG (X.blk s H scope (compEnvC scope cl C X.env) fp) tg (WGa X scope tg) := ⟨fun pins s' σ H' v u Q I r hh => hh s H C cl fp pins s' u I r⟩
theorem wta (s : Shared) (H : Hp) (C : Addr) (cl : List (Str × Addr)) (fp : List Addr) : PTs (X.blk s H scope (compEnvC scope cl C X.env) fp) ifs (WTa X scope ifs) := ⟨fun pins s' σ H' Q I hh => hh s H C cl fp pins s' I⟩
theorem wea (s : Shared) (H : Hp) (C : Addr) (cl : List (Str × Addr)) (fp : List Addr) : PE (X.blk s H scope (compEnvC scope cl C X.env) fp) elt (WEa X scope elt) := ⟨fun pins s' σ H' Q I hh => hh s H C cl fp pins s' I⟩
theorem lc_go (hi : ∀ (ds : List D) (k : Kd) (R : It → Hp → Prop), it ρ = some (ds, k) → (∀ J H1 F, Same H H1 → (∀ a ∈ F, ∃ u, H1 a = some u ∧ Mu u) → (∀ a ∈ F, H a = none ∨ ∃ S, k = some S ∧ ∃ i ∈ S, a ∈ Fs i) → ItOk X.K J (keepH H1 F) ds F → R J H1) → WI X tg iter σ H R) (his : ∀ i ∈ is, i ∈ own.map (·.2))
    (hg : ∀ (s : Shared) (H : Hp) (C : Addr) (cl : List (Str × Addr)) (fp : List Addr), PGd (X.blk s H scope (compEnvC scope cl C X.env) fp) tg is g) (ht : ∀ (s : Shared) (H : Hp) (C : Addr) (cl : List (Str × Addr)) (fp : List Addr), PPTs (X.blk s H scope (compEnvC scope cl C X.env) fp) ifs tt)
    (he : ∀ (s : Shared) (H : Hp) (C : Addr) (cl : List (Str × Addr)) (fp : List Addr), PP (X.blk s H scope (compEnvC scope cl C X.env) fp) elt te)
    {d : D} {k : Kd} {Q : VK} (E : EnvOk X.K C H ρ σ Fs) (h : sLc it (own.map (·.2)) g tt te ρ = some (d, k)) (q : ∀ v H' F, Same H H' → RepR X.K H H' Fs k d v F → Q v H') :
    tLc (WI X tg iter) (WGa X scope tg) (WTa X scope ifs) (WEa X scope elt) (own.map (·.2)) σ H Q := by
  unfold sLc at h
  cases hit : it ρ with
  | none => rw [hit] at h; cases h
  | some p =>
    obtain ⟨ds, k1⟩ := p
    rw [hit] at h
    simp only at h
    cases hlc : lcS (kOr k1) g tt te ds (wipeD ρ (own.map (·.2))) with
    | none => rw [hlc] at h; cases h
    | some ys =>
      rw [hlc] at h
      simp only at h
      have hsz0 : okP (ds.length ≤ sizeLine) = true := Classical.byContradiction fun z => by rw [if_neg z] at h; cases h
      have hsz := okP_iff.mp hsz0
      rw [if_pos hsz0] at h
      cases h
      refine hi ds k1 _ hit fun J H1 F s1 tr hm io => ?_
      intro Dn hD
      have E1 := (E.same s1).wipe (own.map (·.2))
      have sD : Same H1 (upd H1 Dn (.lst [])) := same_new hD
      refine ⟨fun i m H => m = ds.length - i ∧ i ≤ ds.length ∧ Same H1 H ∧ ∃ (acc : List V) (zs rest : List D) (G : List Addr), H Dn = some (.lst acc) ∧ Reps X.K H true zs acc G ∧ G.Nodup ∧ (∀ a ∈ G, H1 a = none ∧ a ≠ Dn) ∧ zs.length ≤ i ∧ ys = zs ++ rest ∧ lcS (kOr k1) g tt te (ds.drop i) (wipeD ρ (own.map (·.2))) = some rest,
        ⟨ds.length, by simp, Nat.zero_le _, sD, [], [], ys, [], upd_same, ⟨rfl, rfl⟩, List.nodup_nil, (fun a ha => by cases ha), Nat.le_refl _, rfl, by simpa using hlc⟩, ?_⟩
      rintro i m H2 ⟨rfl, hi2, s2, acc, zs, rest, G, hA, hR, hN, hF, hz, hys, hrest⟩
      have sK : Same (keepH H1 F) H2 := (keepH_same H1 F).trans s2
      by_cases hlt : i < ds.length
      · refine .inr ⟨io.go i H2 sK hlt, fun H' => i + 1 ≤ ds.length ∧ Same H1 H' ∧ ∃ (acc : List V) (zs rest : List D) (G : List Addr), H' Dn = some (.lst acc) ∧ Reps X.K H' true zs acc G ∧ G.Nodup ∧ (∀ a ∈ G, H1 a = none ∧ a ≠ Dn) ∧ zs.length ≤ i + 1 ∧ ys = zs ++ rest ∧ lcS (kOr k1) g tt te (ds.drop (i + 1)) (wipeD ρ (own.map (·.2))) = some rest,
          fun H' qq => ⟨ds.length - (i + 1), by omega, rfl, qq.1, qq.2⟩, fun x H3 hy => ?_⟩
        obtain ⟨s3, Gx, hG, rx⟩ := io.yld i H2 x H3 ds[i] sK (List.getElem?_eq_getElem hlt) hy
        have hrest0 := hrest
        rw [List.drop_eq_getElem_cons hlt] at hrest
        rw [lcS] at hrest
        cases hgo : g ds[i] (kOr k1) (wipeD ρ (own.map (·.2))) with
        | none => rw [hgo] at hrest; cases hrest
        | some ρ4 =>
          rw [hgo] at hrest
          simp only at hrest
          have E3 : EnvOk X.K C H3 (wipeD ρ (own.map (·.2))) (wipe σ (own.map (·.2))) _ := (E1.same s2).same s3
          have rV : RepV X.K C (wipeD ρ (own.map (·.2))) (fun j => if j ∈ own.map (·.2) then [] else Fs j) H3 (kOr k1) ds[i] x Gx := by
            cases k1 with
            | none =>
              refine ⟨rx, fun a ha j e n hh ho _ hja => ?_⟩
              obtain ⟨h1, h2⟩ := wipeD_has hh
              simp only [h2, if_false] at hja
              obtain ⟨u, eu, _⟩ := E.trA hja
              rcases hm a (hG a ha) with z | ⟨S, hS, _⟩
              · rw [z] at eu; cases eu
              · cases hS
            | some R =>
              refine ⟨rx, fun a ha j e n hh ho hR hja => ?_⟩
              obtain ⟨h1, h2⟩ := wipeD_has hh
              simp only [h2, if_false] at hja
              obtain ⟨u, eu, _⟩ := E.trA hja
              rcases hm a (hG a ha) with z | ⟨S, hS, l, hl, hla⟩
              · rw [z] at eu; cases eu
              · cases hS
                have hjl : j ≠ l := fun z => hR (z ▸ hl)
                by_cases hjj : ∃ f q, Has ρ l f q
                · obtain ⟨f, q', hjj⟩ := hjj
                  exact E.dis j l e n f q' hjl h1 ho hjj a hja hla
                · rw [E.non l fun f q' z => hjj ⟨f, q', z⟩] at hla
                  cases hla
          intro s' H0 C' cl fp
          refine (hg s' H0 C' cl fp).run C _ ρ4 _ H3 _ ds[i] (kOr k1) x Gx _ E3 rV hgo fun σ5 Fs5 E5 hl5 hj5 => ⟨?_, ?_⟩
          · rw [wipe_eq (σ := wipe σ (own.map (·.2))) (by rw [hl5]) (fun j hj => hj5 j fun z => hj (his j z)), wipe_wipe]
          · intro s'' H0' C'' cl' fp' pins' s3'
            cases htt : tt ρ4 with
            | none => rw [htt] at hrest; cases hrest
            | some c =>
              rw [htt] at hrest
              refine (ht s'' H0' C'' cl' fp').run C ρ4 σ5 H3 Fs5 c _ E5 htt (fun H4 s4 => ?_) pins' s3'
              have s14 : Same H1 H4 := (s2.trans s3).trans s4
              have s24 : Same H2 H4 := s3.trans s4
              cases c with
              | false =>
                simp only [Bool.false_eq_true, if_false]
                exact ⟨hlt, s14, acc, zs, rest, G, s24 _ _ hA, hR.same s24, hN, hF, by omega, hys, hrest⟩
              | true =>
                simp only [if_true]
                simp only at hrest
                cases hte : te ρ4 with
                | none => rw [hte] at hrest; cases hrest
                | some p =>
                  obtain ⟨y, ky⟩ := p
                  rw [hte] at hrest
                  simp only at hrest
                  have hyk : y.imm = true ∨ ky = none := Classical.byContradiction fun z => by rw [if_neg z] at hrest; cases hrest
                  rw [if_pos hyk] at hrest
                  cases hre : lcS (kOr k1) g tt te (ds.drop (i + 1)) (wipeD ρ (own.map (·.2))) with
                  | none => rw [hre] at hrest; cases hrest
                  | some rest' =>
                    rw [hre] at hrest
                    have hre2 := hre
                    cases hrest
                    intro s5' H05 C5 cl5 fp5
                    refine (he s5' H05 C5 cl5 fp5).run C ρ4 σ5 H4 Fs5 y ky _ (E5.same s4) hte fun w H5 Fw s5 rw => ?_
                    have s25 : Same H2 H5 := s24.trans s5
                    have s15 : Same H1 H5 := s14.trans s5
                    have own' : ∃ Fy, Rep X.K H5 true y w Fy ∧ Fy.Nodup ∧ ∀ a ∈ Fy, H4 a = none := by
                      rcases hyk with z | z
                      · exact ⟨[], (rw.im z).2, List.nodup_nil, fun a ha => by cases ha⟩
                      · subst z
                        exact ⟨Fw, rw.1, rw.2.1, rw.2.2⟩
                    obtain ⟨Fy, ry, ny, fy⟩ := own'
                    have hA5 := s25 _ _ hA
                    have neD : ∀ a ∈ Fy, a ≠ Dn := fun a ha z => by
                      have h4 := fy a ha
                      rw [z, s24 _ _ hA] at h4
                      cases h4
                    have hD5 : ∀ a o, a ≠ Dn → H5 a = some o → upd H5 Dn (.lst (acc ++ [w])) a = some o := fun a o hne e => by rw [upd_ne hne]; exact e
                    have kpD : Kp H5 (upd H5 Dn (.lst (acc ++ [w]))) := Kp.upd hA5 trivial
                    refine ⟨acc, hA5, ?_, hlt, fun a o e => ?_, acc ++ [w], zs ++ [y], rest', G ++ Fy, upd_same, ?_, ?_, ?_, by simp; omega, by rw [hys]; simp, by first | exact hre2 | rfl⟩
                    · have hb : acc.length ≤ i := by rw [Reps.len hR]; exact hz
                      omega
                    · exact hD5 a o (fun z => by rw [z, hD] at e; cases e) (s15 a o e)
                    · refine Reps.app (Reps.kp kpD zs acc G (hR.same s25) fun a ha => upd_ne (hF a ha).2) (Reps.one (Rep.kp kpD y w Fy ry fun a ha => upd_ne (neD a ha)))
                    · rw [List.nodup_append]
                      refine ⟨hN, ny, fun a ha b hb z => ?_⟩
                      subst z
                      obtain ⟨u, eu, _⟩ := Reps.tr zs acc G (hR.same s24) a ha
                      rw [fy a hb] at eu
                      cases eu
                    · intro a ha
                      rcases List.mem_append.mp ha with ha | ha
                      · exact hF a ha
                      · exact ⟨s14.free (fy a ha), neD a ha⟩
      · have e : i = ds.length := by omega
        subst e
        refine .inl ⟨io.stop _ H2 sK (Nat.le_refl _), ?_⟩
        rw [List.drop_length] at hrest
        cases hrest
        rw [List.append_nil] at hys
        subst hys
        refine q (.ref Dn) H2 (Dn :: G) (s1.trans s2) ⟨⟨Dn, acc, G, rfl, hR, hA, rfl⟩, List.nodup_cons.mpr ⟨fun z => (hF Dn z).2 rfl, hN⟩, fun a ha => ?_⟩
        rcases List.mem_cons.mp ha with rfl | ha
        · exact s1.free hD
        · exact s1.free (hF a ha).1
theorem dLc (hc : X.calm = true) (hN : X.N.Nodup) (hi : PPI X tg iter it) (ok : BlkOk X.N X.env.scope scope own) (his : ∀ i ∈ is, i ∈ own.map (·.2))
    (hg : ∀ (s : Shared) (H : Hp) (C : Addr) (cl : List (Str × Addr)) (fp : List Addr), PGd (X.blk s H scope (compEnvC scope cl C X.env) fp) tg is g) (ht : ∀ (s : Shared) (H : Hp) (C : Addr) (cl : List (Str × Addr)) (fp : List Addr), PPTs (X.blk s H scope (compEnvC scope cl C X.env) fp) ifs tt)
    (he : ∀ (s : Shared) (H : Hp) (C : Addr) (cl : List (Str × Addr)) (fp : List Addr), PP (X.blk s H scope (compEnvC scope cl C X.env) fp) elt te) (hs : ∀ x, foldedSetIterable iter X.env x = pure x := by intro _; rfl) :
    PP X (.ListComp elt [⟨tg, iter, ifs, 0⟩] scope pos) (sLc it (own.map (·.2)) g tt te) := by
  refine ⟨fun C ρ σ H Fs d k Q E h q => WE.of (pe_lc hc hN (wi X tg iter) ok wga wta wea hs) ?_⟩
  exact lc_go (fun ds k R e q => hi.run C ρ σ H Fs ds k R E e q) his hg ht he E h q
/-- name = [..] -/
theorem dSetLc (i : Nat) {y : Str} {py spos : Pos} (hc : X.calm = true) (hN : X.N.Nodup) (hsw : swapsWith (.ListComp elt [⟨tg, iter, ifs, 0⟩] scope pos) (some (.Name y py)) spos.line X.env = pure true) (hi : PPI X tg iter it) (ok : BlkOk X.N X.env.scope scope own) (his : ∀ i ∈ is, i ∈ own.map (·.2))
    (hg : ∀ (s : Shared) (H : Hp) (C : Addr) (cl : List (Str × Addr)) (fp : List Addr), PGd (X.blk s H scope (compEnvC scope cl C X.env) fp) tg is g) (ht : ∀ (s : Shared) (H : Hp) (C : Addr) (cl : List (Str × Addr)) (fp : List Addr), PPTs (X.blk s H scope (compEnvC scope cl C X.env) fp) ifs tt)
    (he : ∀ (s : Shared) (H : Hp) (C : Addr) (cl : List (Str × Addr)) (fp : List Addr), PP (X.blk s H scope (compEnvC scope cl C X.env) fp) elt te) (hs : ∀ x, foldedSetIterable iter X.env x = pure x := by intro _; rfl)
    (hy : X.N[i]? = some y := by rfl) (hyl : X.env.scope.names.lookup y = some .local := by rfl) :
    PSd X (.Assign [.Name y py] (.ListComp elt [⟨tg, iter, ifs, 0⟩] scope pos) spos) (sAsg (sX (sLc it (own.map (·.2)) g tt te)) (setS i)) := by
  refine ⟨fun C W Z ρ σ H Fs tk E h => WS.of (ps_setLc hc hN hy hyl hsw (wi X tg iter) ok wga wta wea hs) ?_⟩
  unfold sAsg sX at h
  cases hl : sLc it (own.map (·.2)) g tt te ρ with
  | none => rw [hl] at h; exact h.elim
  | some p =>
    obtain ⟨d, k⟩ := p
    rw [hl] at h
    simp only at h
    refine lc_go (fun ds k R e q => hi.run C ρ σ H Fs ds k R E e q) his hg ht he E hl fun v H' F s1 r => ?_
    cases hg' : setS i d k ρ with
    | none => simp only [hg'] at h; exact h.elim
    | some ρ'' =>
      simp only [hg'] at h
      obtain ⟨_, Fs'', E''⟩ := setS_ok (E.same s1) (((RepR.inV r E))) hg'
      exact h H' _ Fs'' E''
end
end
end DL
end DLsec7
set_option maxRecDepth 100000
/-! DL8: defs and their calls. -/
noncomputable section DLsec8
namespace DL
open PySem PySem.Spec PyProof.Rows L2
/-- what a def comes to: its value, its arguments' data behind it (those count that are written for the caller) -/
inductive FO where
  | ok (d : D) (us : List D) | ex (x : Xn) | bad
abbrev FS := List D → FO
def argEnv : List Bool → List D → DEnv
  | o :: io, d :: ds => some (d, if o = true then .arg else .shr) :: argEnv io ds
  | _, _ => []
/-- the heap at the entry without what is written for the caller -/
def outOf (H : Hp) (io : List Bool) (Fs : Nat → List Addr) : Hp := fun a => if (List.range io.length).any (fun i => io.getD i false && decide (a ∈ Fs i)) = true then none else H a
theorem outOf_same (H : Hp) (io : List Bool) (Fs : Nat → List Addr) : Same (outOf H io Fs) H := fun b o e => by
  unfold outOf at e
  split at e
  · cases e
  · exact e
theorem outOf_in {H : Hp} {io : List Bool} {Fs : Nat → List Addr} {i : Nat} {a : Addr} (hi : io[i]? = some true) (ha : a ∈ Fs i) : outOf H io Fs a = none := by
  unfold outOf
  rw [if_pos]
  rw [List.any_eq_true]
  refine ⟨i, List.mem_range.mpr (List.getElem?_eq_some_iff.mp hi).1, ?_⟩
  simp [List.getD_eq_getElem?_getD, hi, ha]
theorem outOf_out {H : Hp} {io : List Bool} {Fs : Nat → List Addr} {a : Addr} (h : ∀ i, io[i]? = some true → a ∉ Fs i) : outOf H io Fs a = H a := by
  unfold outOf
  rw [if_neg]
  rw [List.any_eq_true]
  rintro ⟨i, hi, e⟩
  simp only [Bool.and_eq_true, decide_eq_true_eq] at e
  refine h i ?_ e.2
  have hlt := List.mem_range.mp hi
  have e1 := e.1
  rw [List.getD_eq_getElem?_getD, List.getElem?_eq_getElem hlt] at e1
  rw [List.getElem?_eq_getElem hlt]
  simpa using e1
theorem outOf_none {H : Hp} {io : List Bool} {Fs : Nat → List Addr} {a : Addr} (h : outOf H io Fs a = none) : H a = none ∨ ∃ i, io[i]? = some true ∧ a ∈ Fs i := by
  by_cases z : ∃ i, io[i]? = some true ∧ a ∈ Fs i
  · exact .inr z
  · rw [outOf_out fun i hi ha => z ⟨i, hi, ha⟩] at h
    exact .inl h
theorem argEnv_has : ∀ {io : List Bool} {ds : List D} {i : Nat} {d : D} {m : Md}, Has (argEnv io ds) i d m → ds[i]? = some d ∧ ∃ o, io[i]? = some o ∧ m = (if o = true then .arg else .shr)
  | o :: io, e :: ds, 0, d, m, h => by
    have h : some (e, if o = true then Md.arg else Md.shr) = some (d, m) := by simpa [Has, argEnv] using h
    obtain ⟨rfl, rfl⟩ := Prod.mk.inj (Option.some.inj h)
    exact ⟨rfl, o, rfl, rfl⟩
  | o :: io, e :: ds, i + 1, d, m, h => by
    obtain ⟨h1, q, h2, h3⟩ := argEnv_has (io := io) (ds := ds) (i := i) (d := d) (m := m) (by simpa [Has, argEnv] using h)
    exact ⟨by simpa using h1, q, by simpa using h2, h3⟩
  | [], ds, i, d, m, h => by simp [Has, argEnv] at h
  | o :: io, [], i, d, m, h => by simp [Has, argEnv] at h
theorem argEnv_len : ∀ {io : List Bool} {ds : List D}, io.length = ds.length → (argEnv io ds).length = ds.length
  | [], [], _ => rfl
  | o :: io, d :: ds, h => by
    show (argEnv io ds).length + 1 = ds.length + 1
    rw [argEnv_len (by simpa using h)]
theorem argEnv_get : ∀ {io : List Bool} {ds : List D} {i : Nat} {d : D} {o : Bool}, ds[i]? = some d → io[i]? = some o → Has (argEnv io ds) i d (if o = true then .arg else .shr)
  | p :: io, e :: ds, 0, d, o, h, h' => by
    have e1 : e = d := by simpa using h
    have e2 : p = o := by simpa using h'
    subst e1 e2
    rfl
  | p :: io, e :: ds, i + 1, d, o, h, h' => by
    have := argEnv_get (io := io) (ds := ds) (i := i) (d := d) (o := o) (by simpa using h) (by simpa using h')
    simpa [Has, argEnv] using this
  | [], ds, i, d, o, h, h' => by simp at h'
  | p :: io, [], i, d, o, h, h' => by simp at h
/-- behind a def that came to d, its arguments' data us -/
def OkPost (K : PySem.W.Frag) (io : List Bool) (vs : List V) (H : Hp) (Fs : Nat → List Addr) (d : D) (us : List D) (Q : VK) : Prop :=
  ∀ (v : V) (H' : Hp) (F : List Addr) (Fs' : Nat → List Addr), Same (outOf H io Fs) H' → (∀ (i : Nat) (v' : V), io[i]? = some true → vs[i]? = some v' → ∃ d', us[i]? = some d' ∧ Rep K H' true d' v' (Fs' i) ∧ (Fs' i).Nodup ∧ ∀ a ∈ Fs' i, outOf H io Fs a = none) →
    (∀ i j : Nat, i ≠ j → io[i]? = some true → io[j]? = some true → ∀ a ∈ Fs' i, a ∉ Fs' j) → Rep K H' true d v F → F.Nodup → (∀ a ∈ F, outOf H io Fs a = none ∧ ∀ i : Nat, io[i]? = some true → a ∉ Fs' i) → Q v H'
def FOPost (K : PySem.W.Frag) (io : List Bool) (vs : List V) (H : Hp) (Fs : Nat → List Addr) (Q : VK) (E : XK) : FO → Prop
  | .ok d us => OkPost K io vs H Fs d us Q
  | .ex x => ∀ cls dd H', Same (outOf H io Fs) H' → XRep K H' x cls dd → E cls dd H'
  | .bad => False
/-- THE PROMISE: called with data ds a def comes to f ds -/
def spD (K : PySem.W.Frag) (io : List Bool) (f : FS) : Sp := fun vs H Q E => ∃ (ds : List D) (Fs : Nat → List Addr), vs.length = io.length ∧ ds.length = io.length ∧
  EnvOk K ⟨outOf H io Fs, fun i => vs.getD i .non⟩ H (argEnv io ds) (vs.map some) Fs ∧ FOPost K io vs H Fs Q E (f ds)
def outArgs : List Bool → DEnv → Option (List D)
  | [], _ => some []
  | o :: io, x :: ρ => match outArgs io ρ with
    | none => none
    | some us => match x with
      | some (d, m) => if o = true → m = .arg then some (d :: us) else none
      | none => if o = true then none else some (.non :: us)
  | _ :: _, [] => none
theorem outArgs_get : ∀ {io : List Bool} {ρ : DEnv} {us : List D} {i : Nat}, outArgs io ρ = some us → io[i]? = some true → ∃ d, Has ρ i d .arg ∧ us[i]? = some d
  | [], ρ, us, i, h, hi => by simp at hi
  | o :: io, [], us, i, h, hi => by cases h
  | o :: io, x :: ρ, us, i, h, hi => by
    unfold outArgs at h
    split at h
    · cases h
    · rename_i us' e
      split at h
      · rename_i d m
        split at h
        · rename_i hm
          cases h
          cases i with
          | zero =>
            have ho : o = true := by simpa using hi
            exact ⟨d, by rw [Has, hm ho]; rfl, rfl⟩
          | succ i =>
            obtain ⟨d', q1, q2⟩ := outArgs_get (i := i) e (by simpa using hi)
            exact ⟨d', by simpa [Has] using q1, by simpa using q2⟩
        · cases h
      · split at h
        · cases h
        · rename_i ho
          cases h
          cases i with
          | zero =>
            have : o = true := by simpa using hi
            exact absurd this ho
          | succ i =>
            obtain ⟨d', q1, q2⟩ := outArgs_get (i := i) e (by simpa using hi)
            exact ⟨d', by simpa [Has] using q1, by simpa using q2⟩
/-- a def's meaning, from its body's -/
def foOf (io : List Bool) : Out → FO
  | .rt d ρ => (match outArgs io ρ with
    | some us => .ok d us
    | none => .bad)
  | .nx ρ => (match outArgs io ρ with
    | some us => .ok .non us
    | none => .bad)
  | .ex x _ => .ex x
  | _ => .bad
def fnOf (N : Nat) (io : List Bool) (body : SS) : FS := fun ds => foOf io (body (argEnv io ds ++ List.replicate (N - ds.length) none))
/-- .. of a def that lets no exception out -/
def noEx (f : FS) : FS := fun ds => match f ds with
  | .ex _ => .bad
  | o => o
section
variable {P : Program} {w : World} {K : PySem.W.Frag} {mg : Str → Option Value} {base : Heap}
theorem start_env {N : List Str} {C : Ct} {H : Hp} {io : List Bool} {ds : List D} {vs : List V} {Fs : Nat → List Addr} (hv : vs.length = io.length) (hd : ds.length = io.length) (E : EnvOk K C H (argEnv io ds) (vs.map some) Fs) :
    EnvOk K C H (argEnv io ds ++ List.replicate (N.length - ds.length) none) (L2.start N vs) Fs := by
  have hl : (argEnv io ds).length = ds.length := argEnv_len hd.symm
  have has : ∀ {i d m}, Has (argEnv io ds ++ List.replicate (N.length - ds.length) none) i d m → Has (argEnv io ds) i d m := fun {i d m} h => by
    have h : (argEnv io ds ++ List.replicate (N.length - ds.length) none)[i]? = some (some (d, m)) := h
    by_cases hi : i < (argEnv io ds).length
    · rw [List.getElem?_append_left hi] at h
      exact h
    · rw [List.getElem?_append_right (by omega)] at h
      have := (List.getElem?_eq_some_iff.mp h).2
      rw [List.getElem_replicate] at this
      cases this
  have get : ∀ {i : Nat} {x : Option V}, (vs.map some)[i]? = some x → (L2.start N vs)[i]? = some x := fun {i x} h => by
    unfold L2.start
    rw [List.getElem?_append_left (List.getElem?_eq_some_iff.mp h).1]
    exact h
  refine ⟨by simp [L2.start, hl, hv, hd], fun i d m h => ?_, fun i d m h => E.nd i d m (has h), fun i j d m e n hij h o h' => E.dis i j d m e n hij (has h) o (has h'), E.prot, fun i d h => get (E.arg i d (has h)), fun i h => E.non i fun d m z => h d m ?_⟩
  · obtain ⟨v, q1, q2⟩ := E.rep i d m (has h)
    exact ⟨v, get q1, q2⟩
  · show (_ ++ _)[i]? = _
    rw [List.getElem?_append_left (List.getElem?_eq_some_iff.mp z).1]
    exact z
theorem fn_ends {N : List Str} {io : List Bool} {vs : List V} {H : Hp} {Q : VK} {E : XK} {W : WX} (hW : ∀ cls d σ H, E cls d H → W cls d σ H) {o : Out} {Fs : Nat → List Addr}
    (h : FOPost K io vs H Fs Q E (foOf io o)) : OutOk K ⟨outOf H io Fs, fun i => vs.getD i .non⟩ { nx := fun _ H' => Q .non H', rt := Q } W o := by
  have fin : ∀ {ρ : DEnv} {us : List D} {d : D} {H' : Hp} {σ' : L2.St} {Fs' : Nat → List Addr} {v : V} {F : List Addr}, outArgs io ρ = some us → EnvOk K ⟨outOf H io Fs, fun i => vs.getD i .non⟩ H' ρ σ' Fs' →
      OkPost K io vs H Fs d us Q → Rep K H' true d v F → F.Nodup → (∀ a ∈ F, outOf H io Fs a = none ∧ ∀ i e, Has ρ i e .arg → a ∉ Fs' i) → Q v H' := fun {ρ us d H' σ' Fs' v F} ha E q r n fr => by
    refine q v H' F Fs' E.prot (fun i v' hi hvi => ?_) (fun i j hij hi hj => ?_) r n fun a haF => ⟨(fr a haF).1, fun i hi => ?_⟩
    · obtain ⟨d', hd', hu⟩ := outArgs_get ha hi
      obtain ⟨v2, q1, q2⟩ := E.rep i d' _ hd'
      have q3 := E.arg i d' hd'
      rw [q1] at q3
      have e : v2 = v' := by
        have q4 : vs.getD i .non = v' := by simp [List.getD_eq_getElem?_getD, hvi]
        rw [← q4]
        exact Option.some.inj (Option.some.inj q3)
      subst e
      obtain ⟨n1, n2⟩ := E.nd i d' _ hd' rfl
      exact ⟨d', hu, q2, n1, n2⟩
    · obtain ⟨d', hd', _⟩ := outArgs_get ha hi
      obtain ⟨e', he', _⟩ := outArgs_get ha hj
      exact E.dis i j d' _ e' _ hij hd' rfl he'
    · obtain ⟨d', hd', _⟩ := outArgs_get ha hi
      exact (fr a haF).2 i d' hd'
  cases o with
  | rt d ρ =>
    unfold foOf at h
    cases hu : outArgs io ρ with
    | none => simp only [hu] at h; exact h.elim
    | some us => simp only [hu] at h; exact fun H' σ' Fs' v F E r n fr => fin hu E h r n fr
  | nx ρ =>
    unfold foOf at h
    cases hu : outArgs io ρ with
    | none => simp only [hu] at h; exact h.elim
    | some us => simp only [hu] at h; exact fun H' σ' Fs' E => fin hu E h ⟨rfl, rfl⟩ List.nodup_nil fun a ha => by cases ha
  | ex x ρ => exact fun H' σ' Fs' cls dd E xr => hW _ _ _ _ (h cls dd H' E.prot xr)
  | ct ρ => exact h.elim
  | bk ρ => exact h.elim
  | bad => exact h.elim
/-- a def that lets no exception out -/
theorem def_ok {x qual : Str} {st : Stmt} {f : Addr} {fd : FuncData} {N ps : List Str} {k : Nat} {sb : SS} {io : List Bool} (F : Fun K x qual st f fd) (S : FnScope N ps (defScope st)) (hps : ps.length = io.length)
    (hb : ∀ (cdv : Value) (A : Around) (outer : List Env) (s : Shared) (H : Hp) (E : XK), Room k (A.deeper (envOfC qual (defScope st) s.heap.objs.size f cdv)) → PSsd (cxOf CX0 P w K mg base N qual (defScope st) f cdv A outer s H E).nox (defBody st) sb) :
    FnOk P w K mg base CX0 (k + 1) f fd ps (spD K io (noEx (fnOf N.length io sb))) := by
  refine F.ok S (fun vs H Q E h => ?_) (fun cdv A outer s H vs Q E hr h => ?_)
  · obtain ⟨ds, Fs, h1, _⟩ := h
    rw [h1, hps]
  · obtain ⟨ds, Fs, h1, h2, E0, h3⟩ := h
    refine ⟨_, wss _ _, (hb cdv A outer s H E hr).run ⟨outOf H io Fs, fun i => vs.getD i .non⟩ (fun _ _ _ _ => False) _ _ (L2.start N vs) H Fs takes0 (start_env (N := N) h1 h2 E0) ?_⟩
    refine fn_ends (N := N) (E := fun _ _ _ => False) (W := fun _ _ _ _ => False) (fun _ _ _ _ z => z) ?_
    unfold noEx at h3
    show FOPost K io vs H Fs Q _ (fnOf N.length io sb ds)
    cases hf : fnOf N.length io sb ds with
    | ok d us => rw [hf] at h3; exact h3
    | ex x => rw [hf] at h3; exact h3.elim
    | bad => rw [hf] at h3; exact h3
/-- a def that may raise -/
theorem def_okX {x qual : Str} {st : Stmt} {f : Addr} {fd : FuncData} {N ps : List Str} {k : Nat} {sb : SS} {io : List Bool} (F : Fun K x qual st f fd) (S : FnScope N ps (defScope st)) (hps : ps.length = io.length)
    (hb : ∀ (cdv : Value) (A : Around) (outer : List Env) (s : Shared) (H : Hp) (E : XK), Room k (A.deeper (envOfC qual (defScope st) s.heap.objs.size f cdv)) → PSsd (cxOf (L2.CX P w) P w K mg base N qual (defScope st) f cdv A outer s H E) (defBody st) sb) :
    FnOk P w K mg base (L2.CX P w) (k + 1) f fd ps (spD K io (fnOf N.length io sb)) := by
  refine F.okX S (fun vs H Q E h => ?_) (fun cdv A outer s H vs Q E hr h => ?_)
  · obtain ⟨ds, Fs, h1, _⟩ := h
    rw [h1, hps]
  · obtain ⟨ds, Fs, h1, h2, E0, h3⟩ := h
    refine ⟨_, wss _ _, (hb cdv A outer s H E hr).run ⟨outOf H io Fs, fun i => vs.getD i .non⟩ (fun cls d _ H => E cls d H) _ _ (L2.start N vs) H Fs (takes_of rfl rfl rfl rfl) (start_env (N := N) h1 h2 E0) ?_⟩
    exact fn_ends (N := N) (E := E) (W := fun cls d _ H => E cls d H) (fun _ _ _ _ z => z) h3
/-- another meaning that says no more -/
theorem FnOk.le {CX : CXT} {k : Nat} {f : Addr} {fd : FuncData} {ps : List Str} {io : List Bool} {g g' : FS} (F : FnOk P w K mg base CX k f fd ps (spD K io g)) (h : ∀ ds, g' ds ≠ .bad → g ds = g' ds) : FnOk P w K mg base CX k f fd ps (spD K io g') :=
  F.imp fun vs H Q E ⟨ds, Fs, h1, h2, h3, h4⟩ => ⟨ds, Fs, h1, h2, h3, by rw [h ds fun z => by rw [z] at h4; exact h4]; exact h4⟩
end
/-! ### a call -/
section
variable {X : Cx} {C : Ct} {ρ : DEnv} {σ : L2.St} {H : Hp} {Fs : Nat → List Addr} {e : Expr} {es : List Expr} {t : SA} {pos p : Pos}
theorem allRo {io : List Bool} (h : io.all (!·) = true) (i : Nat) : io[i]? ≠ some true := fun z => by
  rw [List.all_eq_true] at h
  have := h true (List.mem_of_getElem? z)
  cases this
theorem outOf_ro {H : Hp} {io : List Bool} {Fs : Nat → List Addr} (h : io.all (!·) = true) : outOf H io Fs = H := by
  funext a
  exact outOf_out fun i hi => absurd hi (allRo h i)
/-- the arguments as the callee's slots -/
theorem ro_env {K : PySem.W.Frag} {H0 H : Hp} {io : List Bool} {pin : Nat → V} (h : io.all (!·) = true) {l : List (D × Kd)} {vs : List V} {Gs : List (List Addr)} (hl : l.length = io.length) (r : RepRs K H0 H Fs l vs Gs) :
    vs.length = io.length ∧ EnvOk K ⟨outOf H io fun i => Gs.getD i [], pin⟩ H (argEnv io (dsOf l)) (vs.map some) (fun i => Gs.getD i []) := by
  have hv : vs.length = l.length := by
    have := Reps.len r.all.rep
    rw [this]
    simp [dsOf]
  have hG := r.mem
  refine ⟨hv.trans hl, ?_⟩
  rw [outOf_ro h]
  have has : ∀ {i d m}, Has (argEnv io (dsOf l)) i d m → m = .shr ∧ (dsOf l)[i]? = some d := fun {i d m} hh => by
    obtain ⟨h1, o, h2, h3⟩ := argEnv_has hh
    cases o with
    | true => exact absurd h2 (allRo h i)
    | false => exact ⟨h3, h1⟩
  refine ⟨by rw [List.length_map, argEnv_len (by simp [dsOf, hl]), hv]; simp [dsOf], fun i d m hh => ?_, fun i d m hh ho => ?_, fun i j d m e n _ hh ho => ?_, Same.refl H, fun i d hh => ?_, fun i hh => ?_⟩
  · obtain ⟨rfl, hd⟩ := has hh
    unfold dsOf at hd
    rw [List.getElem?_map] at hd
    cases hli : l[i]? with
    | none => rw [hli] at hd; cases hd
    | some q =>
      rw [hli] at hd
      have hd : q.1 = d := Option.some.inj hd
      have hlt : i < Gs.length := by rw [hG]; exact (List.getElem?_eq_some_iff.mp hli).1
      obtain ⟨v, hv', rr⟩ := r.tr i q Gs[i] hli (List.getElem?_eq_getElem hlt)
      refine ⟨v, by rw [List.getElem?_map, hv']; rfl, ?_⟩
      have e : Gs.getD i [] = Gs[i] := by simp [List.getD_eq_getElem?_getD, hlt]
      rw [e, ← hd]
      exact rr.rep
  · rw [(has hh).1] at ho; cases ho
  · rw [(has hh).1] at ho; cases ho
  · have := (has hh).1
    cases this
  · by_cases hlt : i < Gs.length
    · rw [hG] at hlt
      have h1 : (dsOf l)[i]? = some (l[i]).1 := by
        unfold dsOf
        rw [List.getElem?_map, List.getElem?_eq_getElem hlt]
        rfl
      have hio : i < io.length := by omega
      exact absurd (argEnv_get h1 (List.getElem?_eq_getElem hio)) (hh _ _)
    · simp [List.getD_eq_getElem?_getD, List.getElem?_eq_none (Nat.le_of_not_lt hlt)]
def sCallF (fs : FS) (n : Nat) (t : SA) : SE := fun ρ => match t ρ with
  | some l => if l.length = n then (match fs (dsOf l) with
    | .ok d _ => some (d, none)
    | _ => none) else none
  | none => none
theorem sCallF_some {fs : FS} {n : Nat} {d : D} {k : Kd} (h : sCallF fs n t ρ = some (d, k)) : ∃ l us, t ρ = some l ∧ l.length = n ∧ fs (dsOf l) = .ok d us ∧ k = none := by
  unfold sCallF at h
  split at h
  · split at h
    · split at h
      · cases h; exact ⟨_, _, by assumption, by assumption, by assumption, rfl⟩
      · cases h
    · cases h
  · cases h
theorem call_go {K : PySem.W.Frag} {io : List Bool} {fs : FS} {l : List (D × Kd)} {vs : List V} {Gs : List (List Addr)} {H1 : Hp} {d : D} {us : List D} {E : XK} {Q : VK} (hio : io.all (!·) = true) (hl : l.length = io.length) (r : RepRs K H H1 Fs l vs Gs) (s1 : Same H H1) (hf : fs (dsOf l) = .ok d us)
    (q : ∀ v H' F, Same H H' → RepR K H H' Fs none d v F → Q v H') : spD K io fs vs H1 Q E := by
  obtain ⟨h1, h2⟩ := ro_env (pin := fun i => vs.getD i .non) hio hl r
  refine ⟨dsOf l, fun i => Gs.getD i [], h1, by simp [dsOf, hl], h2, ?_⟩
  rw [hf]
  intro v H' F Fs' s _ _ r n fr
  rw [outOf_ro hio] at s fr
  exact q v H' F (s1.trans s) ⟨r, n, fun a ha => s1.free (fr a ha).1⟩
/-- a def of the text is called; nothing is written for the caller, no exception comes -/
theorem dCall {k : Nat} {f : Addr} {fd : FuncData} {ps : List Str} {io : List Bool} {fs : FS} {x : Str} (F : FnOk X.prog X.w X.K X.mg X.base CX0 k f fd ps (spD X.K io fs)) (hr : Room k X.A) (hm : X.mg x = some (.ref f)) (hk : PySem.W.keepIn X.K (.ref f) = true) (hb : Binds X.K fd ps []) (ha : PPA X (e :: es) t)
    (hio : io.all (!·) = true := by rfl) (hg : Gl X x := by rfl) (hdb : (x == ("__debug__" : Str)) = false := by decide) (he : starEach (e :: es) X.env = (false, eval e X.env) :: starEach es X.env := by rfl) (hpl : (backTo pos (starEach es X.env)).any (·.1) = false := by rfl) :
    PP X (.Call (.Name x p) (e :: es) [] pos) (sCallF fs io.length t) := by
  refine ⟨fun C ρ σ H Fs d kk Q E h q => WE.of (pe_call F hr hg hm hk hb .nil pass0 (wa X _) hdb he hpl) ?_⟩
  obtain ⟨l, us, h1, h2, h3, rfl⟩ := sCallF_some h
  refine ha.run C ρ σ H Fs l _ E h1 fun vs H1 Gs s1 r => ?_
  rw [List.append_nil]
  exact call_go hio h2 r s1 h3 q
end
end DL
end DLsec8
set_option maxRecDepth 100000
/-! DL9: built-ins: isinstance, all, str, int, list, tuple, sum; texts' methods. -/
noncomputable section DLsec9
namespace DL
open PySem PySem.Spec PyProof.Rows L2
/-! ### isinstance, built-in types -/
inductive Ty where
  | int | str | bool | tuple | list | dict
def Ty.nm : Ty → String
  | .int => "int" | .str => "str" | .bool => "bool" | .tuple => "tuple" | .list => "list" | .dict => "dict"
def D.tn : D → Option String
  | .non => some "NoneType" | .bl _ => some "bool" | .int _ => some "int" | .str _ => some "str" | .tup _ => some "tuple" | .rol _ => some "list" | .lst _ => some "list" | .dK _ _ => some "dict" | .dT _ _ => none | .cot _ => some "tuple" | .exc _ _ _ => none | .opq _ => none
def isTy : Ty → D → Option Bool
  | _, .opq _ => none
  | _, .exc _ _ _ => none
  | _, .dT _ _ => none
  | .int, .int _ => some true
  | .int, .bl _ => some true
  | .str, .str _ => some true
  | .bool, .bl _ => some true
  | .tuple, .tup _ => some true
  | .tuple, .cot _ => some true
  | .list, .lst _ => some true
  | .list, .rol _ => some true
  | .dict, .dK _ _ => some true
  | _, _ => some false
theorem isTy_ok {T : Ty} {d : D} {b : Bool} (h : isTy T d = some b) : ∃ t, d.tn = some t ∧ kitB t T.nm = some b := by
  cases T <;> cases d <;> first
    | (cases h; done)
    | (cases h; exact ⟨_, rfl, by decide +kernel⟩)
theorem tn_ok {K : PySem.W.Frag} {H : Hp} {o : Bool} {d : D} {v : V} {F : List Addr} {t : String} (r : Rep K H o d v F) (h : d.tn = some t) : TyX K H v (.type t) := by
  cases d with
  | non => cases h; rw [r.1]; exact .base .non
  | bl b => cases h; rw [r.1]; exact .base (.bl b)
  | int i => cases h; rw [r.1]; exact .base (.int i)
  | str x => cases h; rw [r.1]; exact .base (.str x)
  | opq v => cases h
  | tup ds =>
    cases h
    obtain ⟨a, vs, rfl, hq, _⟩ := r
    exact .base (.tup hq)
  | exc c ns ds => cases h
  | cot ds =>
    cases h
    obtain ⟨a, vs, rfl, hq, _⟩ := r
    rcases hq with (hq | ⟨o, hq⟩) | ⟨o, its, n, hk, hc, _⟩
    · exact .base (.tup hq)
    · exact .fTuple hq
    · exact .kTuple hk hc
  | rol ds =>
    cases h
    obtain ⟨a, vs, rfl, hq, _⟩ := r
    rcases hq.sq with (hq | ⟨o, hq⟩) | ⟨o, its, n, hk, hc, _⟩
    · exact .base (.lst hq)
    · exact .base (.frz hq)
    · exact .kList hk hc
  | lst ds =>
    cases h
    obtain ⟨a, vs, G, rfl, _, hq, _⟩ := r
    exact .base (.lst hq)
  | dK ks ds =>
    cases h
    obtain ⟨a, vs, G, rfl, _, _, hq⟩ := r
    rcases hq with ⟨hq, _⟩ | ⟨_, ⟨ob, hq⟩, _⟩
    · exact .base (.dK hq)
    · exact .fDict hq
  | dT ks ds => cases h
section
variable {X : Cx} {C : Ct} {ρ : DEnv} {σ : L2.St} {H : Hp} {Fs : Nat → List Addr} {a b c e o : Expr} {es : List Expr} {s sa sb : SE} {t : SA} {pos p p2 apos : Pos}
def sIsi (T : Ty) (s : SE) : SE := fun ρ => match s ρ with
  | some (d, _) => (match isTy T d with
    | some b => some (.bl b, none)
    | none => none)
  | none => none
theorem dIsi (T : Ty) (ha : PP X a s) (hm : X.mg "isinstance" = none) (hT : PE X c (tC (.ty T.nm))) (hg : Gl X "isinstance" := by rfl) (hv : bootBuiltins "isinstance" = some (.builtin "isinstance") := by decide +kernel)
    (he : starEach [a, c] X.env = (false, eval a X.env) :: starEach [c] X.env := by rfl) (he2 : starEach [c] X.env = (false, eval c X.env) :: starEach [] X.env := by rfl) (hpl : (backTo pos (starEach [c] X.env)).any (·.1) = false := by rfl) :
    PP X (.Call (.Name "isinstance" p) [a, c] [] pos) (sIsi T s) := by
  refine ⟨fun C ρ σ H Fs d k Q E h q => WE.of (pe_callB call_isi hg hm hv (pa_cons (we X a) (pa_cons hT pa_nil he2) he) (by decide) (by decide) he hpl) ?_⟩
  unfold sIsi at h
  split at h
  · rename_i d' k' h1
    split at h
    · rename_i b h2
      cases h
      obtain ⟨tn, h3, h4⟩ := isTy_ok h2
      refine ha.run C ρ σ H Fs d' k' _ E h1 fun v H' F s1 r => ?_
      exact ⟨v, .ty T.nm, .type tn, .type T.nm, b, rfl, .ty _, tn_ok r.rep h3, kit_ty h4, q _ H' [] s1 ⟨⟨rfl, rfl⟩, List.nodup_nil, fun a ha => by cases ha⟩⟩
    · cases h
  · cases h
/-! ### all, any of a list of truths -/
def bls : List D → Option (List Bool)
  | [] => some []
  | .bl b :: r => (match bls r with
    | some bs => some (b :: bs)
    | none => none)
  | _ => none
theorem bls_rep {K : PySem.W.Frag} {H : Hp} {o : Bool} : ∀ {ds : List D} {vs : List V} {bs : List Bool} {F : List Addr}, bls ds = some bs → Reps K H o ds vs F → vs = bs.map V.bl
  | [], vs, bs, F, h, r => by cases h; exact r.1
  | d :: ds, vs, bs, F, h, r => by
    obtain ⟨v, r', G1, G2, h1, h2, h3, h4⟩ := r
    cases d <;> first
      | (unfold bls at h
         split at h
         · rename_i bs' e
           cases h
           rw [h1, h3.1, bls_rep e h4]
           rfl
         · cases h)
      | (unfold bls at h; cases h)
def gAll : List D → Option D
  | [.lst ds] => (match bls ds with
    | some bs => some (.bl (bs.all id))
    | none => none)
  | _ => none
theorem oAll (hc : X.calm = true) : CaD X (.builtin "all") gAll := by
  refine ⟨_, cr_all hc, fun ds z h => ?_⟩
  unfold gAll at h
  split at h
  · rename_i ds'
    split at h
    · rename_i bs hb
      cases h
      refine ⟨rfl, fun H vs F Q r q => ?_⟩
      obtain ⟨v, rfl, a, ws, G, rfl, r2, hl, _⟩ := reps1 r
      exact ⟨a, bs, rfl, SqL.of (by rw [← bls_rep hb r2]; exact hl), q _ H (Same.refl H) ⟨rfl, rfl⟩⟩
    · cases h
  · cases h
/-! ### sums -/
def intsD : List D → Option (List Int)
  | [] => some []
  | .int i :: r => (match intsD r with
    | some ns => some (i :: ns)
    | none => none)
  | _ => none
theorem intsD_rep {K : PySem.W.Frag} {H : Hp} {o : Bool} : ∀ {ds : List D} {vs : List V} {ns : List Int} {F : List Addr}, intsD ds = some ns → Reps K H o ds vs F → vs = ns.map V.int
  | [], vs, bs, F, h, r => by cases h; exact r.1
  | d :: ds, vs, bs, F, h, r => by
    obtain ⟨v, r', G1, G2, h1, h2, h3, h4⟩ := r
    cases d <;> first
      | (unfold intsD at h
         split at h
         · rename_i bs' e
           cases h
           rw [h1, h3.1, intsD_rep e h4]
           rfl
         · cases h)
      | (unfold intsD at h; cases h)
theorem intsD_map (ns : List Int) : intsD (ns.map D.int) = some ns := by
  induction ns with
  | nil => rfl
  | cons n r ih => rw [List.map_cons, intsD, ih]
def gSum : List D → Option D
  | [.lst ds] => (match intsD ds with
    | some ns => some (.int ns.sum)
    | none => none)
  | [.rol ds] => (match intsD ds with
    | some ns => some (.int ns.sum)
    | none => none)
  | _ => none
theorem oSum (hc : X.calm = true) : CaD X (.builtin "sum") gSum := by
  refine ⟨_, cr_sum hc, fun ds z h => ?_⟩
  unfold gSum at h
  split at h
  · split at h
    · rename_i ns hb
      cases h
      refine ⟨rfl, fun H vs F Q r q => ?_⟩
      obtain ⟨v, rfl, a, ws, G, rfl, r2, hl, _⟩ := reps1 r
      exact ⟨a, ns, rfl, SqL.of (by rw [← intsD_rep hb r2]; exact hl), q _ H (Same.refl H) ⟨rfl, rfl⟩⟩
    · cases h
  · split at h
    · rename_i ns hb
      cases h
      refine ⟨rfl, fun H vs F Q r q => ?_⟩
      obtain ⟨v, rfl, a, ws, rfl, hl, r2⟩ := reps1 r
      exact ⟨a, ns, rfl, by rw [← intsD_rep hb r2]; exact hl.sq, q _ H (Same.refl H) ⟨rfl, rfl⟩⟩
    · cases h
  · cases h
/-! ### str(n), int(text) -/
def gStr : List D → Option D
  | [.int i] => if okP (i.natAbs.log2 < 1920) = true then some (.str (toString i)) else none
  | _ => none
theorem oStr : CaD X (.type "str") gStr := by
  refine ⟨_, call_str_int, fun ds z h => ?_⟩
  unfold gStr at h
  split at h
  · split at h
    · rename_i i hi0
      have hi := okP_iff.mp hi0
      cases h
      refine ⟨rfl, fun H vs F Q r q => ?_⟩
      obtain ⟨v, rfl, rfl, _⟩ := reps1 r
      exact ⟨i, rfl, hi, q _ H (Same.refl H) ⟨rfl, rfl⟩⟩
    · cases h
  · cases h
def gInt : List D → Option D
  | [.int i] => some (.int i)
  | [.bl k] => some (.int (if k then 1 else 0))
  | [.str x] => if okP (x.length ≤ 640) = true then (match PySem.intText? x with
    | some n => some (.int n)
    | none => none) else none
  | _ => none
theorem oInt : CaD X (.type "int") gInt := by
  refine ⟨_, CallR.or call_int1 call_int_str, fun ds z h => ?_⟩
  unfold gInt at h
  split at h
  · cases h
    refine ⟨rfl, fun H vs F Q r q => ?_⟩
    obtain ⟨v, rfl, rfl, _⟩ := reps1 r
    exact .inl (.inl ⟨_, rfl, q _ H (Same.refl H) ⟨rfl, rfl⟩⟩)
  · cases h
    refine ⟨rfl, fun H vs F Q r q => ?_⟩
    obtain ⟨v, rfl, rfl, _⟩ := reps1 r
    exact .inl (.inr ⟨_, rfl, q _ H (Same.refl H) ⟨rfl, rfl⟩⟩)
  · split at h
    · rename_i x hx0
      have hx := okP_iff.mp hx0
      split at h
      · rename_i n hn
        cases h
        refine ⟨rfl, fun H vs F Q r q => ?_⟩
        obtain ⟨v, rfl, rfl, _⟩ := reps1 r
        exact .inr ⟨x, n, rfl, hn, hx, q _ H (Same.refl H) ⟨rfl, rfl⟩⟩
      · cases h
    · cases h
  · cases h
/-! ### list(..), tuple(..) of a list, a tuple: a new list, tuple of the same items -/
def sList (s : SE) : SE := fun ρ => match s ρ with
  | some (.lst ds, k) => some (.lst ds, kds ds k)
  | some (.rol ds, k) => some (.lst ds, kds ds k)
  | some (.tup ds, k) => some (.lst ds, kds ds k)
  | _ => none
theorem dList (ha : PP X a s) (hm : X.mg "list" = none) (hg : Gl X "list" := by rfl) (hv : bootBuiltins "list" = some (.type "list") := by decide +kernel) (he : starEach [a] X.env = (false, eval a X.env) :: starEach [] X.env := by rfl) (hpl : (backTo pos (starEach [] X.env)).any (·.1) = false := by rfl) :
    PP X (.Call (.Name "list" p) [a] [] pos) (sList s) := by
  refine ⟨fun C ρ σ H Fs d k Q E h q => WE.of (pe_callTy call_list_of hg hm hv (pa_cons (we X a) pa_nil he) (by decide) (by decide) he hpl) ?_⟩
  unfold sList at h
  split at h
  · rename_i ds k1 h1
    cases h
    refine ha.run C ρ σ H Fs _ k1 _ E h1 fun v H' F s1 r => ?_
    obtain ⟨x, vs, G, rfl, hl, _, r2⟩ := r.lst
    obtain ⟨G2, r3⟩ := r2.kds
    exact ⟨x, vs, rfl, .inl (SqL.of hl), fun l hn => q _ _ _ (s1.trans (same_new hn)) (r3.newL s1 hn)⟩
  · rename_i ds k1 h1
    cases h
    refine ha.run C ρ σ H Fs _ k1 _ E h1 fun v H' F s1 r => ?_
    obtain ⟨x, vs, rfl, hl, r2⟩ := r.rol
    obtain ⟨G2, r3⟩ := r2.kds
    exact ⟨x, vs, rfl, .inl hl, fun l hn => q _ _ _ (s1.trans (same_new hn)) (r3.newL s1 hn)⟩
  · rename_i ds k1 h1
    cases h
    refine ha.run C ρ σ H Fs _ k1 _ E h1 fun v H' F s1 r => ?_
    obtain ⟨x, vs, rfl, hl, r2⟩ := r.tup
    obtain ⟨G2, r3⟩ := r2.kds
    exact ⟨x, vs, rfl, .inr (SqT.of hl), fun l hn => q _ _ _ (s1.trans (same_new hn)) (r3.newL s1 hn)⟩
  · cases h
def sTuple (s : SE) : SE := fun ρ => match s ρ with
  | some (.lst ds, k) => some (.tup ds, kds ds k)
  | some (.rol ds, k) => some (.tup ds, kds ds k)
  | some (.tup ds, k) => some (.tup ds, kds ds k)
  | _ => none
theorem dTuple (ha : PP X a s) (hm : X.mg "tuple" = none) (hg : Gl X "tuple" := by rfl) (hv : bootBuiltins "tuple" = some (.type "tuple") := by decide +kernel) (he : starEach [a] X.env = (false, eval a X.env) :: starEach [] X.env := by rfl) (hpl : (backTo pos (starEach [] X.env)).any (·.1) = false := by rfl) :
    PP X (.Call (.Name "tuple" p) [a] [] pos) (sTuple s) := by
  refine ⟨fun C ρ σ H Fs d k Q E h q => WE.of (pe_callTy call_tuple_of hg hm hv (pa_cons (we X a) pa_nil he) (by decide) (by decide) he hpl) ?_⟩
  unfold sTuple at h
  split at h
  · rename_i ds k1 h1
    cases h
    refine ha.run C ρ σ H Fs _ k1 _ E h1 fun v H' F s1 r => ?_
    obtain ⟨x, vs, G, rfl, hl, _, r2⟩ := r.lst
    obtain ⟨G2, r3⟩ := r2.kds
    exact ⟨x, vs, rfl, .inl ⟨SqL.of hl, fun l hn => q _ _ _ (s1.trans (same_new hn)) (r3.newT hn)⟩⟩
  · rename_i ds k1 h1
    cases h
    refine ha.run C ρ σ H Fs _ k1 _ E h1 fun v H' F s1 r => ?_
    obtain ⟨x, vs, rfl, hl, r2⟩ := r.rol
    obtain ⟨G2, r3⟩ := r2.kds
    exact ⟨x, vs, rfl, .inl ⟨hl, fun l hn => q _ _ _ (s1.trans (same_new hn)) (r3.newT hn)⟩⟩
  · rename_i ds k1 h1
    cases h
    refine ha.run C ρ σ H Fs _ k1 _ E h1 fun v H' F s1 r => ?_
    obtain ⟨x, vs, rfl, hl, r2⟩ := r.tup
    obtain ⟨G2, r3⟩ := r2.kds
    exact ⟨x, vs, rfl, .inr ⟨SqT.of hl, q _ _ _ s1 (r3.oldT hl)⟩⟩
  · cases h
/-! ### texts' methods -/
def strsD : List D → Option (List Str)
  | [] => some []
  | .str x :: r => (match strsD r with
    | some xs => some (x :: xs)
    | none => none)
  | _ => none
theorem strsD_rep {K : PySem.W.Frag} {H : Hp} {o : Bool} : ∀ {ds : List D} {vs : List V} {xs : List Str} {F : List Addr}, strsD ds = some xs → Reps K H o ds vs F → vs = xs.map V.str
  | [], vs, bs, F, h, r => by cases h; exact r.1
  | d :: ds, vs, bs, F, h, r => by
    obtain ⟨v, r', G1, G2, h1, h2, h3, h4⟩ := r
    cases d <;> first
      | (unfold strsD at h
         split at h
         · rename_i bs' e
           cases h
           rw [h1, h3.1, strsD_rep e h4]
           rfl
         · cases h)
      | (unfold strsD at h; cases h)
theorem strsD_map (xs : List Str) : strsD (xs.map D.str) = some xs := by
  induction xs with
  | nil => rfl
  | cons n r ih => rw [List.map_cons, strsD, ih]
def joinOk (a : Str) (ys : List Str) : Bool := okP ((ys.map (·.length)).sum + ys.length * a.length ≤ 16777216)
def sJoin (sa sb : SE) : SE := fun ρ => match sa ρ, sb ρ with
  | some (.str x, _), some (.lst ds, _) => (match strsD ds with
    | some ys => if joinOk x ys = true then some (.str (Str.join x ys), none) else none
    | none => none)
  | _, _ => none
theorem dJoin (ho : PP X o sa) (he : PP X e sb) (hs : starEach [e] X.env = [(false, eval e X.env)] := by rfl) (hbase : attributeBase o "join" X.env (eval o X.env) = eval o X.env := by rfl) (hline : (apos.endLine == pos.line) = true := by rfl) :
    PP X (.Call (.Attribute o "join" apos) [e] [] pos) (sJoin sa sb) := by
  refine ⟨fun C ρ σ H Fs d k Q E h q => WE.of (pe_join (we X o) (we X e) hs hbase hline) ?_⟩
  unfold sJoin at h
  split at h
  · rename_i x k1 ds k2 h1 h2
    split at h
    · rename_i ys hy
      split at h
      · rename_i hz
        cases h
        refine ho.run C ρ σ H Fs _ k1 _ E h1 fun v H1 F s1 r1 => ⟨⟨x, r1.rep.1⟩, he.run C ρ σ H1 Fs _ k2 _ (E.same s1) h2 fun w H2 G s2 r2 => ?_⟩
        obtain ⟨a, vs, G', rfl, hl, _, r3⟩ := r2.lst
        exact ⟨x, a, ys, r1.rep.1, rfl, .inl (SqL.of (by rw [← strsD_rep hy r3.rep]; exact hl)), okP_iff.mp hz, q _ H2 [] (s1.trans s2) ⟨⟨by rw [TL.join_eq], rfl⟩, List.nodup_nil, fun a ha => by cases ha⟩⟩
      · cases h
    · cases h
  · cases h
def sUpper (s : SE) : SE := fun ρ => match s ρ with
  | some (.str x, _) => if okP (x.length ≤ 5592405) = true then some (.str (Txt.upper x), none) else none
  | _ => none
theorem dUpper (ho : PP X o s) (hbase : attributeBase o "upper" X.env (eval o X.env) = eval o X.env := by rfl) (hline : (apos.endLine == pos.line) = true := by rfl) : PP X (.Call (.Attribute o "upper" apos) [] [] pos) (sUpper s) := by
  refine ⟨fun C ρ σ H Fs d k Q E h q => WE.of (pe_upper (we X o) hbase hline) ?_⟩
  unfold sUpper at h
  split at h
  · rename_i x k1 h1
    split at h
    · rename_i hz0
      have hz := okP_iff.mp hz0
      cases h
      exact ho.run C ρ σ H Fs _ k1 _ E h1 fun v H1 F s1 r1 => ⟨⟨x, r1.rep.1⟩, x, r1.rep.1, rfl, hz, q _ H1 [] s1 ⟨⟨rfl, rfl⟩, List.nodup_nil, fun a ha => by cases ha⟩⟩
    · cases h
  · cases h
def splitOk (x y : Str) : Bool := okP ((y.length == 0) = false ∧ x.length + 2 ≤ sizeLine)
def sSplit (sa sb : SE) : SE := fun ρ => match sa ρ, sb ρ with
  | some (.str x, _), some (.str y, _) => if splitOk x y = true then some (.lst ((Txt.split x y).map D.str), none) else none
  | _, _ => none
theorem reps_strs {K : PySem.W.Frag} {H : Hp} {o : Bool} : ∀ xs : List Str, Reps K H o (xs.map D.str) (xs.map V.str) []
  | [] => ⟨rfl, rfl⟩
  | x :: xs => ⟨.str x, xs.map V.str, [], [], rfl, rfl, ⟨rfl, rfl⟩, reps_strs xs⟩
theorem dSplit (ho : PP X o sa) (he : PP X e sb) (hs : starEach [e] X.env = [(false, eval e X.env)] := by rfl) (hbase : attributeBase o "split" X.env (eval o X.env) = eval o X.env := by rfl) (hline : (apos.endLine == pos.line) = true := by rfl) :
    PP X (.Call (.Attribute o "split" apos) [e] [] pos) (sSplit sa sb) := by
  refine ⟨fun C ρ σ H Fs d k Q E h q => WE.of (pe_split (we X o) (we X e) hs hbase hline) ?_⟩
  unfold sSplit at h
  split at h
  · rename_i x k1 y k2 h1 h2
    split at h
    · rename_i hz
      cases h
      have hz := (okP_iff (p := ((y.length == 0) = false ∧ x.length + 2 ≤ sizeLine))).mp hz
      refine ho.run C ρ σ H Fs _ k1 _ E h1 fun v H1 F s1 r1 => ⟨⟨x, r1.rep.1⟩, he.run C ρ σ H1 Fs _ k2 _ (E.same s1) h2 fun w H2 G s2 r2 => ?_⟩
      refine ⟨x, y, r1.rep.1, by rw [r2.rep.1], hz.1, hz.2, fun pp hp => q _ _ [pp] ((s1.trans s2).trans (same_new hp)) ?_⟩
      have r : RepsR X.K H H2 Fs none ((Txt.split x y).map D.str) ((Txt.split x y).map V.str) [] := ⟨reps_strs _, List.nodup_nil, fun a ha => by cases ha⟩
      exact r.newL (s1.trans s2) hp
    · cases h
  · cases h
/-! ### -n -/
def sNeg (s : SE) : SE := fun ρ => match s ρ with
  | some (.int i, _) => some (.int (-i), none)
  | _ => none
theorem dNeg (h : PP X a s) : PP X (.UnaryOp .USub a pos) (sNeg s) := by
  refine ⟨fun C ρ σ H Fs d k Q E hs q => WE.of (pe_un un_neg (we X a)) ?_⟩
  unfold sNeg at hs
  split at hs
  · rename_i i k1 h1
    cases hs
    exact h.run C ρ σ H Fs _ k1 _ E h1 fun v H1 F s1 r1 => ⟨i, r1.rep.1, q _ H1 [] s1 ⟨⟨rfl, rfl⟩, List.nodup_nil, fun a ha => by cases ha⟩⟩
  · cases hs
/-! ### truth of a value -/
def D.tru : D → Option Bool
  | .non => some false
  | .bl b => some b
  | .int i => some (!okP (i = 0))
  | .str y => if okP (y.length ≤ sizeLine) = true then some (!okP (y.length = 0)) else none
  | .tup ds => some (!ds.isEmpty)
  | .lst ds => some (!ds.isEmpty)
  | .rol ds => some (!ds.isEmpty)
  | .dK ks _ => some (!ks.isEmpty)
  | _ => none
def sTru (s : SE) : ST := fun ρ => match s ρ with
  | some (d, _) => d.tru
  | none => none
end
end DL
end DLsec9
set_option maxRecDepth 100000
/-! DL10: a def of the text as one fact; the law's end. -/
noncomputable section DLsec10
namespace DL
open PySem PySem.Spec PyProof.Rows L2
/-- the def x of the text stands and keeps its promise -/
def Cal (P : Program) (w : World) (K : PySem.W.Frag) (mg : Str → Option Value) (base : Heap) (CX : CXT) (x : Str) (k : Nat) (io : List Bool) (fs : FS) : Prop :=
  ∃ (f : Addr) (fd : FuncData) (ps : List Str), FnOk P w K mg base CX k f fd ps (spD K io fs) ∧ mg x = some (.ref f) ∧ PySem.W.keepIn K (.ref f) = true ∧ Binds K fd ps []
/-- the def x of the text stands -/
def Std (K : PySem.W.Frag) (mg : Str → Option Value) (x : Str) (st : Stmt) (ps : List Str) : Prop :=
  ∃ (f : Addr) (fd : FuncData), Fun K x x st f fd ∧ mg x = some (.ref f) ∧ Binds K fd ps []
section
variable {P : Program} {w : World} {K : PySem.W.Frag} {mg : Str → Option Value} {base : Heap}
theorem Cal.le {CX : CXT} {x : Str} {k : Nat} {io : List Bool} {g g' : FS} (c : Cal P w K mg base CX x k io g) (h : ∀ ds, g' ds ≠ .bad → g ds = g' ds) : Cal P w K mg base CX x k io g' := by
  obtain ⟨f, fd, ps, F, h1, h2, h3⟩ := c
  exact ⟨f, fd, ps, FnOk.le F h, h1, h2, h3⟩
theorem Cal.mono {CX : CXT} {x : Str} {k k' : Nat} {io : List Bool} {g : FS} (c : Cal P w K mg base CX x k io g) (h : k ≤ k') : Cal P w K mg base CX x k' io g := by
  obtain ⟨f, fd, ps, F, h1, h2, h3⟩ := c
  exact ⟨f, fd, ps, F.mono h, h1, h2, h3⟩
theorem cal_of {x : Str} {st : Stmt} {N ps : List Str} {k : Nat} {sb : SS} {io : List Bool} (s : Std K mg x st ps) (S : FnScope N ps (defScope st)) (hps : ps.length = io.length)
    (hb : ∀ (f : Addr) (cdv : Value) (A : Around) (outer : List Env) (s : Shared) (H : Hp) (E : XK), Room k (A.deeper (envOfC x (defScope st) s.heap.objs.size f cdv)) → PSsd (cxOf CX0 P w K mg base N x (defScope st) f cdv A outer s H E).nox (defBody st) sb) :
    Cal P w K mg base CX0 x (k + 1) io (noEx (fnOf N.length io sb)) := by
  obtain ⟨f, fd, F, h1, h2⟩ := s
  exact ⟨f, fd, ps, def_ok F S hps (hb f), h1, F.kp, h2⟩
theorem cal_ofX {x : Str} {st : Stmt} {N ps : List Str} {k : Nat} {sb : SS} {io : List Bool} (s : Std K mg x st ps) (S : FnScope N ps (defScope st)) (hps : ps.length = io.length)
    (hb : ∀ (f : Addr) (cdv : Value) (A : Around) (outer : List Env) (s : Shared) (H : Hp) (E : XK), Room k (A.deeper (envOfC x (defScope st) s.heap.objs.size f cdv)) → PSsd (cxOf (L2.CX P w) P w K mg base N x (defScope st) f cdv A outer s H E) (defBody st) sb) :
    Cal P w K mg base (L2.CX P w) x (k + 1) io (fnOf N.length io sb) := by
  obtain ⟨f, fd, F, h1, h2⟩ := s
  exact ⟨f, fd, ps, def_okX F S hps (hb f), h1, F.kp, h2⟩
end
section
variable {X : Cx} {e : Expr} {es : List Expr} {t : SA} {pos p : Pos}
theorem dCal {k n : Nat} {io : List Bool} {fs : FS} {x : Str} (c : Cal X.prog X.w X.K X.mg X.base CX0 x k io fs) (hr : Room k X.A) (ha : PPA X (e :: es) t) (hn : io.length = n := by rfl)
    (hio : io.all (!·) = true := by rfl) (hg : Gl X x := by rfl) (hdb : (x == ("__debug__" : Str)) = false := by decide) (he : starEach (e :: es) X.env = (false, eval e X.env) :: starEach es X.env := by rfl) (hpl : (backTo pos (starEach es X.env)).any (·.1) = false := by rfl) :
    PP X (.Call (.Name x p) (e :: es) [] pos) (sCallF fs n t) := by
  subst hn
  obtain ⟨f, fd, ps, F, h1, h2, h3⟩ := c
  exact dCall F hr h1 h2 h3 ha hio hg hdb he hpl
/-- a built-in type as a value -/
theorem dTy {T : String} {x : Str} (hm : X.mg x = none) (hg : Gl X x := by rfl) (hv : bootBuiltins x = some (.type T) := by decide +kernel) (hn : x ≠ "__name__" := by decide) (hd : (x == ("__debug__" : Str)) = false := by decide) : PE X (.Name x pos) (tC (.ty T)) := pe_bltn hg hm hv rfl hn hd
end
/-- a module's constant -/
def GlobD (K : PySem.W.Frag) (mg : Str → Option Value) (x : Str) (d : D) : Prop := ∃ (u : Value) (v : V), mg x = some u ∧ RelV v u ∧ ∀ H, Rep K H true d v []
theorem glob_str {K : PySem.W.Frag} {mg : Str → Option Value} {x y : Str} {t : Tok} (h : mg x = some (.str y t)) : GlobD K mg x (.str y) := ⟨_, .str y, h, ⟨t, rfl⟩, fun _ => ⟨rfl, rfl⟩⟩
theorem glob_int {K : PySem.W.Frag} {mg : Str → Option Value} {x : Str} {i : Int} {t : Tok} (h : mg x = some (.int i t)) : GlobD K mg x (.int i) := ⟨_, .int i, h, ⟨t, rfl⟩, fun _ => ⟨rfl, rfl⟩⟩
theorem reps_strs0 {K : PySem.W.Frag} {H : Hp} {o : Bool} : ∀ xs : List Str, Reps K H o (xs.map D.str) (xs.map V.str) []
  | [] => ⟨rfl, rfl⟩
  | x :: xs => ⟨.str x, xs.map V.str, [], [], rfl, rfl, ⟨rfl, rfl⟩, reps_strs0 xs⟩
theorem glob_strs {K : PySem.W.Frag} {mg : Str → Option Value} {x : Str} {a : Addr} {xs : List Str} {od : Option Addr} {its : Array Value} {n : Nat} {sl : Array (Option Value)} (h : mg x = some (.ref a)) (l : K.lookup a = some ⟨.type "tuple", od, .seq its n, sl⟩) (hs : its.size ≤ sizeLine) (hv : Vals (xs.map V.str) its.toList) : GlobD K mg x (.cot (xs.map D.str)) :=
  ⟨_, .ref a, h, rfl, fun H => ⟨a, xs.map V.str, rfl, .inr ⟨_, its, n, l, rfl, rfl, hs, hv⟩, reps_strs0 xs⟩⟩
theorem GlobD.dv {X : Cx} {x : Str} {d : D} {pos : Pos} (g : GlobD X.K X.mg x d) (hg : Gl X x := by rfl) (hd : (x == ("__debug__" : Str)) = false := by decide) : PP X (.Name x pos) (sC d) := by
  obtain ⟨u, v, h1, h2, h3⟩ := g
  exact dGlob hg h1 h2 h3 hd
/-! ### the law -/
/-- the law's def hands back True at every script -/
def spLaw (K : PySem.W.Frag) : Sp := fun vs H Q _ => ∃ (a : Addr) (ns : List Int), vs = [.ref a] ∧ RoL K H a (ns.map V.int) ∧ ns.length ≤ 63 ∧ ∀ H', Q (.bl true) H'
theorem reps_ints {K : PySem.W.Frag} {H : Hp} {o : Bool} : ∀ xs : List Int, Reps K H o (xs.map D.int) (xs.map V.int) []
  | [] => ⟨rfl, rfl⟩
  | x :: xs => ⟨.int x, xs.map V.int, [], [], rfl, rfl, ⟨rfl, rfl⟩, reps_ints xs⟩
theorem law_spF {P : Program} {w : World} {K : PySem.W.Frag} {mg : Str → Option Value} {base : Heap} {CX : CXT} {k : Nat} {fs : FS} {f : Addr} {fd : FuncData} {ps : List Str} (F : FnOk P w K mg base CX k f fd ps (spD K [false] fs)) (h : ∀ ns : List Int, ns.length ≤ 63 → ∃ us, fs [.rol (ns.map D.int)] = .ok (.bl true) us) :
    FnOk P w K mg base CX k f fd ps (spLaw K) := by
  refine F.imp fun vs H Q E ⟨a, ns, e, hr, hl, q⟩ => ?_
  subst e
  obtain ⟨us, hu⟩ := h ns hl
  refine ⟨[.rol (ns.map D.int)], fun _ => [], rfl, rfl, ?_, ?_⟩
  · have ro : outOf H [false] (fun _ => []) = H := outOf_ro rfl
    rw [ro]
    refine ⟨rfl, fun i d m hh => ?_, fun i d m hh ho => ⟨List.nodup_nil, (fun a ha => by cases ha)⟩, (fun i j d m e n _ _ _ _ a ha => by cases ha), Same.refl H, fun i d hh => ?_, fun _ _ => rfl⟩
    · cases i with
      | zero =>
        have hh : some (D.rol (ns.map D.int), Md.shr) = some (d, m) := by simpa [Has, argEnv] using hh
        obtain ⟨rfl, rfl⟩ := Prod.mk.inj (Option.some.inj hh)
        exact ⟨.ref a, rfl, a, ns.map V.int, rfl, hr, reps_ints ns⟩
      | succ i => simp [Has, argEnv] at hh
    · cases i with
      | zero =>
        have hh : some (D.rol (ns.map D.int), Md.shr) = some (d, Md.arg) := by simpa [Has, argEnv] using hh
        cases (Prod.mk.inj (Option.some.inj hh)).2
      | succ i => simp [Has, argEnv] at hh
  · rw [hu]
    intro v H' F Fs' _ _ _ r _ _
    rw [r.1]
    exact q H'
theorem only_ro {K : PySem.W.Frag} {H : Hp} {a : Addr} {xs : List V} (o : Only H) (h : SqL K H a xs) : RoL K H a xs := by
  rcases h with (h | ⟨ob, h⟩) | h
  · rcases o a with z | ⟨ob, ys, z⟩
    · rw [h] at z; cases z
    · rw [h] at z; cases z
  · exact .inl ⟨ob, h⟩
  · exact .inr (.inr h)
end DL
end DLsec10
set_option maxRecDepth 100000
/-! DL11: reckoning with meanings, no program in sight. -/
namespace DL
open PySem PySem.Spec PyProof.Rows L2
theorem lcS_map {α : Type} {k : Kd} {g : SG} {tt : ST} {te : SE} {ρ : DEnv} (h f : α → D) : ∀ xs : List α, (∀ a ∈ xs, ∃ ρ1 k', g (h a) k ρ = some ρ1 ∧ tt ρ1 = some true ∧ te ρ1 = some (f a, k') ∧ ((f a).imm = true ∨ k' = none)) → lcS k g tt te (xs.map h) ρ = some (xs.map f)
  | [], _ => rfl
  | a :: xs, H => by
    obtain ⟨ρ1, k', h1, h2, h3, h4⟩ := H a List.mem_cons_self
    rw [List.map_cons, lcS, h1]
    simp only [h2, h3]
    rw [if_pos h4, lcS_map h f xs fun b hb => H b (List.mem_cons_of_mem _ hb)]
    rfl
theorem lcS_filter {α : Type} {k : Kd} {g : SG} {tt : ST} {te : SE} {ρ : DEnv} (h f : α → D) (p : α → Bool) : ∀ xs : List α, (∀ a ∈ xs, ∃ ρ1, g (h a) k ρ = some ρ1 ∧ tt ρ1 = some (p a) ∧ (p a = true → ∃ k', te ρ1 = some (f a, k') ∧ ((f a).imm = true ∨ k' = none))) → lcS k g tt te (xs.map h) ρ = some ((xs.filter p).map f)
  | [], _ => rfl
  | a :: xs, H => by
    obtain ⟨ρ1, h1, h2, h3⟩ := H a List.mem_cons_self
    have ih := lcS_filter h f p xs fun b hb => H b (List.mem_cons_of_mem _ hb)
    rw [List.map_cons, lcS, h1]
    simp only [h2]
    cases hp : p a with
    | false =>
      simp only [ih]
      rw [List.filter_cons_of_neg (by simp [hp])]
    | true =>
      obtain ⟨k', h4, h5⟩ := h3 hp
      simp only [h4]
      rw [if_pos h5, ih, List.filter_cons_of_pos hp]
      rfl
/-- a comprehension of which only a property of the elements is wanted -/
theorem lcS_all {k : Kd} {g : SG} {tt : ST} {te : SE} {ρ : DEnv} (Pd : D → Prop) : ∀ ds : List D, (∀ d ∈ ds, ∃ ρ1, g d k ρ = some ρ1 ∧ (tt ρ1 = some false ∨ (tt ρ1 = some true ∧ ∃ y k', te ρ1 = some (y, k') ∧ (y.imm = true ∨ k' = none) ∧ Pd y))) → ∃ ys, lcS k g tt te ds ρ = some ys ∧ (∀ y ∈ ys, Pd y) ∧ ys.length ≤ ds.length
  | [], _ => ⟨[], rfl, (fun y hy => by cases hy), Nat.le_refl _⟩
  | d :: ds, H => by
    obtain ⟨ρ1, h1, h2⟩ := H d List.mem_cons_self
    obtain ⟨ys, e, hp, hl⟩ := lcS_all Pd ds fun b hb => H b (List.mem_cons_of_mem _ hb)
    rcases h2 with h2 | ⟨h2, y, k', h3, h4, h5⟩
    · exact ⟨ys, by rw [lcS, h1]; simp only [h2, e], hp, by simp only [List.length_cons]; omega⟩
    · refine ⟨y :: ys, by rw [lcS, h1]; simp only [h2, h3]; rw [if_pos h4, e], fun z hz => ?_, by simp only [List.length_cons]; omega⟩
      rcases List.mem_cons.mp hz with rfl | hz
      · exact h5
      · exact hp z hz
/-- a loop that always goes on -/
theorem loopS_inv {g : SG} {body : SS} (I : DEnv → Prop) : ∀ (ds : List D) (ρ : DEnv), I ρ → (∀ d ∈ ds, ∀ ρ, I ρ → ∃ ρ1 ρ2, g d (some []) ρ = some ρ1 ∧ (body ρ1 = .nx ρ2 ∨ body ρ1 = .ct ρ2) ∧ I ρ2) → ∃ ρ', loopS g body ds ρ = .nx ρ' ∧ I ρ'
  | [], ρ, h, _ => ⟨ρ, rfl, h⟩
  | d :: ds, ρ, h, H => by
    obtain ⟨ρ1, ρ2, h1, h2, h3⟩ := H d List.mem_cons_self ρ h
    obtain ⟨ρ', e, h4⟩ := loopS_inv I ds ρ2 h3 fun b hb => H b (List.mem_cons_of_mem _ hb)
    refine ⟨ρ', ?_, h4⟩
    rw [loopS, h1]
    rcases h2 with h2 | h2 <;> (simp only [h2]; exact e)
/-- .. the invariant by the turn's number -/
theorem loopS_ix {g : SG} {body : SS} (I : Nat → DEnv → Prop) : ∀ (ds : List D) (n : Nat) (ρ : DEnv), I n ρ → (∀ i (hi : i < ds.length), ∀ ρ, I (n + i) ρ → ∃ ρ1 ρ2, g ds[i] (some []) ρ = some ρ1 ∧ (body ρ1 = .nx ρ2 ∨ body ρ1 = .ct ρ2) ∧ I (n + i + 1) ρ2) → ∃ ρ', loopS g body ds ρ = .nx ρ' ∧ I (n + ds.length) ρ'
  | [], n, ρ, h, _ => ⟨ρ, rfl, h⟩
  | d :: ds, n, ρ, h, H => by
    obtain ⟨ρ1, ρ2, h1, h2, h3⟩ := H 0 (Nat.succ_pos _) ρ h
    obtain ⟨ρ', e, h4⟩ := loopS_ix I ds (n + 1) ρ2 h3 fun i hi ρ hI => by
      have := H (i + 1) (Nat.succ_lt_succ hi) ρ (by rw [← Nat.add_assoc, Nat.add_right_comm]; exact hI)
      rw [show n + (i + 1) + 1 = n + 1 + i + 1 by omega] at this
      exact this
    refine ⟨ρ', ?_, by rw [List.length_cons, show n + (ds.length + 1) = n + 1 + ds.length by omega]; exact h4⟩
    rw [loopS]
    have h1' : g d (some []) ρ = some ρ1 := h1
    rw [h1']
    rcases h2 with h2 | h2 <;> (simp only [h2]; exact e)
/-! ### numbers -/
theorem mul_ok {i j : Int} (a b : Nat) (ha : i.natAbs < 2 ^ a) (hb : j.natAbs < 2 ^ b) (h : a + b ≤ 134217728) : mulOk i j = true := okP_iff.mpr (mulx_ok ha hb h)
theorem div_ok {i j : Int} (h : 0 < j) (h2 : j.natAbs.log2 < 9000) : divOk i j = true := okP_iff.mpr ⟨h, h2⟩
theorem mod_ok {i j : Int} (h : 0 < j) : modOk i j = true := okP_iff.mpr h
theorem sLine : sizeLine = 16777216 := sizeLine_eq
/-! ### defs -/
theorem outArgs_ro : ∀ {io : List Bool} {ρ : DEnv}, io.all (!·) = true → io.length ≤ ρ.length → ∃ us, outArgs io ρ = some us
  | [], _, _, _ => ⟨[], rfl⟩
  | o :: io, [], _, h => by simp at h
  | o :: io, x :: ρ, h, hl => by
    rw [List.all_cons, Bool.and_eq_true] at h
    obtain ⟨us, e⟩ := outArgs_ro (io := io) (ρ := ρ) h.2 (by simpa using hl)
    have ho : o = false := by simpa using h.1
    subst ho
    cases x with
    | none => exact ⟨.non :: us, by rw [outArgs, e]; rfl⟩
    | some p =>
      obtain ⟨d, m⟩ := p
      refine ⟨d :: us, ?_⟩
      rw [outArgs, e]
      rfl
theorem fn_rt {N : Nat} {io : List Bool} {b : SS} {ds : List D} {d : D} {ρ : DEnv} (h : b (argEnv io ds ++ List.replicate (N - ds.length) none) = .rt d ρ) (hio : io.all (!·) = true) (hl : io.length ≤ ρ.length) : ∃ us, noEx (fnOf N io b) ds = .ok d us := by
  obtain ⟨us, e⟩ := outArgs_ro hio hl
  refine ⟨us, ?_⟩
  unfold noEx fnOf
  rw [h]
  show (match (match outArgs io ρ with | some us => FO.ok d us | none => .bad) with | .ex _ => FO.bad | o => o) = _
  rw [e]
end DL
set_option maxRecDepth 100000
noncomputable section DLsec12
/-! DL12: facts for reckoning: texts' lengths, places in lists. -/
namespace DL
open PySem PySem.Spec PyProof.Rows L2
theorem atI_nth {α : Type} {ds : List α} {i : Int} (h0 : 0 ≤ i) (h1 : i < ds.length) : atI ds i = ds[i.toNat]? := by
  obtain ⟨n, rfl⟩ := Int.eq_ofNat_of_zero_le h0
  have hlt : n < ds.length := by omega
  rw [Int.toNat_natCast, List.getElem?_eq_getElem hlt]
  exact atI_nat (List.getElem?_eq_getElem hlt)
theorem atI_in {α : Type} {ds : List α} {i : Int} (h0 : 0 ≤ i) (h1 : i < ds.length) : ∃ d, atI ds i = some d ∧ d ∈ ds := by
  have hlt : i.toNat < ds.length := by omega
  exact ⟨ds[i.toNat], by rw [atI_nth h0 h1, List.getElem?_eq_getElem hlt], List.getElem_mem _⟩
theorem atI_sign {x : Str} {i : Int} (h0 : 0 ≤ i) (h1 : i < x.length) : ∃ c, atI x.cps.toList i = some c ∧ c ∈ x.cps.toList :=
  atI_in h0 (by have : x.cps.toList.length = x.length := by simp [Str.length]
                omega)
theorem len_cat (x y : Str) : (x ++ y).length = x.length + y.length := by
  show (x.cps ++ y.cps).size = _
  rw [Array.size_append]
  rfl
theorem len_one (c : Nat) : (⟨#[c]⟩ : Str).length = 1 := rfl
theorem len_cut (z : Str) (lo hi : Option Int) : (cutS z lo hi).length ≤ z.length := cutS_length z lo hi
theorem len_line {n : Nat} (h : n ≤ 16777216) : okP (n ≤ sizeLine) = true := okP_iff.mpr (by rw [sLine]; exact h)
theorem okT {p : Prop} (h : p) : okP p = true := okP_iff.mpr h
theorem okF {p : Prop} (h : ¬ p) : okP p = false := okP_false.mpr h
/-- a def whose body, at these data, hands back d -/
theorem fn_ok {N : Nat} {io : List Bool} {b : SS} {ds : List D} {d : D} {ρ : DEnv} (h : b (argEnv io ds ++ List.replicate (N - ds.length) none) = .rt d ρ) {us : List D} (h2 : outArgs io ρ = some us) : noEx (fnOf N io b) ds = .ok d us := by
  unfold noEx fnOf
  rw [h]
  show (match (match outArgs io ρ with | some us => FO.ok d us | none => .bad) with | .ex _ => FO.bad | o => o) = _
  rw [h2]
end DL
end DLsec12
set_option maxRecDepth 100000
noncomputable section DLsec13
/-! DL13: what is known of values (not which they are): the generators' own reckoning. -/
namespace DL
open PySem PySem.Spec PyProof.Rows L2
abbrev DP := D → Kd → Prop
/-- just the number, the truth -/
def IsE (i : Int) : DP := fun d _ => d = .int i
def IsB (b : Bool) : DP := fun d _ => d = .bl b
/-- some text of at most n signs -/
def IsS (n : Nat) : DP := fun d _ => ∃ x, d = .str x ∧ x.length ≤ n
/-- a list, its items known, its length within m and n -/
def IsL (P : D → Prop) (m n : Nat) : DP := fun d _ => ∃ ds, d = .lst ds ∧ (∀ x ∈ ds, P x) ∧ m ≤ ds.length ∧ ds.length ≤ n
def IsR (P : D → Prop) (m n : Nat) : DP := fun d _ => ∃ ds, d = .rol ds ∧ (∀ x ∈ ds, P x) ∧ m ≤ ds.length ∧ ds.length ≤ n
def PS_ (n : Nat) : D → Prop := fun d => ∃ x, d = .str x ∧ x.length ≤ n
def PI_ : D → Prop := fun d => ∃ i, d = .int i
def EvT (s : SE) (ρ : DEnv) (P : DP) : Prop := ∃ d k, s ρ = some (d, k) ∧ P d k
section
variable {s sa sb : SE} {ρ : DEnv} {P Q : DP} {i j : Int} {m n : Nat}
theorem EvT.mono (h : EvT s ρ P) (hq : ∀ d k, P d k → Q d k) : EvT s ρ Q := let ⟨d, k, e, p⟩ := h; ⟨d, k, e, hq d k p⟩
theorem et_int : EvT (sC (.int i)) ρ (IsE i) := ⟨_, _, rfl, rfl⟩
theorem et_bl {b : Bool} : EvT (sC (.bl b)) ρ (IsB b) := ⟨_, _, rfl, rfl⟩
theorem et_str {x : Str} : EvT (sC (.str x)) ρ (IsS x.length) := ⟨_, _, rfl, x, rfl, Nat.le_refl _⟩
theorem et_var {k : Nat} {d : D} {md : Md} (h : ρ[k]? = some (some (d, md))) (p : P d (kd d (some [k]))) : EvT (sV k) ρ P := ⟨d, _, by unfold sV; rw [h], p⟩
theorem et_fI {c : Int → Int → Bool} {g : Int → Int → Int} (ha : EvT sa ρ (IsE i)) (hb : EvT sb ρ (IsE j)) (h : c i j = true) : EvT (sOp (fI c fun i j => .int (g i j)) sa sb) ρ (IsE (g i j)) := by
  obtain ⟨d, k, e, rfl⟩ := ha
  obtain ⟨d', k', e', rfl⟩ := hb
  exact ⟨.int (g i j), none, by unfold sOp; rw [e, e']; simp [fI, h], rfl⟩
theorem et_add (ha : EvT sa ρ (IsE i)) (hb : EvT sb ρ (IsE j)) : EvT (sOp fAdd sa sb) ρ (IsE (i + j)) := et_fI ha hb rfl
theorem et_sub (ha : EvT sa ρ (IsE i)) (hb : EvT sb ρ (IsE j)) : EvT (sOp fSub sa sb) ρ (IsE (i - j)) := et_fI ha hb rfl
theorem et_mul (ha : EvT sa ρ (IsE i)) (hb : EvT sb ρ (IsE j)) (h1 : i.natAbs < 1000000000000000000000000) (h2 : j.natAbs < 1000000000000000000000000) : EvT (sOp fMul sa sb) ρ (IsE (i * j)) :=
  et_fI ha hb (mul_ok 100 100 (Nat.lt_of_lt_of_le h1 (by decide)) (Nat.lt_of_lt_of_le h2 (by decide)) (by decide))
theorem et_mod (ha : EvT sa ρ (IsE i)) (hb : EvT sb ρ (IsE j)) (h : 0 < j) : EvT (sOp fMod sa sb) ρ (IsE (i % j)) := et_fI ha hb (mod_ok h)
theorem log2_le {n : Nat} (h : n < 1000000000000000000000000) : n.log2 < 9000 := by
  by_cases h0 : n = 0
  · subst h0; decide
  · exact Nat.lt_trans ((Nat.log2_lt h0).mpr (Nat.lt_of_lt_of_le h (by decide : 1000000000000000000000000 ≤ 2 ^ 100))) (by decide)
theorem et_div (ha : EvT sa ρ (IsE i)) (hb : EvT sb ρ (IsE j)) (h : 0 < j) (h2 : j.natAbs < 1000000000000000000000000) : EvT (sOp fDiv sa sb) ρ (IsE (i / j)) := et_fI ha hb (div_ok h (log2_le h2))
theorem et_fB {p : Int → Int → Prop} (ha : EvT sa ρ (IsE i)) (hb : EvT sb ρ (IsE j)) : EvT (sOp (fI (fun _ _ => true) fun i j => .bl (okP (p i j))) sa sb) ρ (IsB (okP (p i j))) := by
  obtain ⟨d, k, e, rfl⟩ := ha
  obtain ⟨d', k', e', rfl⟩ := hb
  exact ⟨_, none, by unfold sOp; rw [e, e']; simp [fI], rfl⟩
theorem et_lt (ha : EvT sa ρ (IsE i)) (hb : EvT sb ρ (IsE j)) : EvT (sOp fLt sa sb) ρ (IsB (okP (i < j))) := et_fB ha hb
theorem et_le (ha : EvT sa ρ (IsE i)) (hb : EvT sb ρ (IsE j)) : EvT (sOp fLe sa sb) ρ (IsB (okP (i ≤ j))) := et_fB ha hb
theorem et_gt (ha : EvT sa ρ (IsE i)) (hb : EvT sb ρ (IsE j)) : EvT (sOp fGt sa sb) ρ (IsB (okP (i > j))) := et_fB ha hb
theorem et_ge (ha : EvT sa ρ (IsE i)) (hb : EvT sb ρ (IsE j)) : EvT (sOp fGe sa sb) ρ (IsB (okP (i ≥ j))) := et_fB ha hb
theorem et_eqI (ha : EvT sa ρ (IsE i)) (hb : EvT sb ρ (IsE j)) : EvT (sOp fEq sa sb) ρ (IsB (okP (i = j))) := by
  obtain ⟨d, k, e, rfl⟩ := ha
  obtain ⟨d', k', e', rfl⟩ := hb
  exact ⟨.bl (okP (i = j)), none, by unfold sOp; rw [e, e']; simp [fCmp, D.sc, scal], rfl⟩
theorem et_neI (ha : EvT sa ρ (IsE i)) (hb : EvT sb ρ (IsE j)) : EvT (sOp fNe sa sb) ρ (IsB (!okP (i = j))) := by
  obtain ⟨d, k, e, rfl⟩ := ha
  obtain ⟨d', k', e', rfl⟩ := hb
  exact ⟨.bl (!okP (i = j)), none, by unfold sOp; rw [e, e']; simp [fCmp, D.sc, scal], rfl⟩
theorem et_cat (ha : EvT sa ρ (IsS m)) (hb : EvT sb ρ (IsS n)) (h : m + n ≤ 16777216) : EvT (sOp fCat sa sb) ρ (IsS (m + n)) := by
  obtain ⟨d, k, e, x, rfl, hx⟩ := ha
  obtain ⟨d', k', e', y, rfl, hy⟩ := hb
  have l : okP (x.length + y.length ≤ sizeLine) = true := len_line (by omega)
  exact ⟨_, none, by unfold sOp; rw [e, e']; simp [fCat, l], x ++ y, rfl, by rw [len_cat]; omega⟩
theorem et_cut {lo hi : DEnv → Option (Option Int)} {l u : Option Int} (ha : EvT sa ρ (IsS m)) (hl : lo ρ = some l) (hu : hi ρ = some u) (h : m ≤ 16777216) : EvT (sSl sa lo hi) ρ (IsS m) := by
  obtain ⟨d, k, e, x, rfl, hx⟩ := ha
  have hs : okP (x.length ≤ sizeLine) = true := len_line (by omega)
  exact ⟨_, none, by unfold sSl; rw [e, hl, hu]; simp [hs], cutS x l u, rfl, Nat.le_trans (len_cut x l u) hx⟩
theorem eo_some (h : EvT s ρ (IsE i)) : sOSome s ρ = some (some i) := by
  obtain ⟨d, k, e, rfl⟩ := h
  unfold sOSome
  rw [e]
theorem et_upper (ha : EvT sa ρ (IsS m)) (h : m ≤ 5592405) (hl : ∀ x : Str, x.length ≤ m → (Txt.upper x).length ≤ n) : EvT (sUpper sa) ρ (IsS n) := by
  obtain ⟨d, k, e, x, rfl, hx⟩ := ha
  have hs : okP (x.length ≤ 5592405) = true := okT (by omega)
  exact ⟨_, none, by unfold sUpper; rw [e]; simp [hs], Txt.upper x, rfl, hl x hx⟩
/-- a sign of a text at a place that lies within -/
theorem et_sign {x : Str} {k0 : Kd} (ha : sa ρ = some (.str x, k0)) (hb : EvT sb ρ (IsE i)) (h0 : 0 ≤ i) (h1 : i < x.length) (h : x.length ≤ 16777216) : EvT (sIx sa sb) ρ (IsS 1) := by
  obtain ⟨d', k', e', rfl⟩ := hb
  obtain ⟨c, ec, _⟩ := atI_sign h0 h1
  have hs : okP (x.length ≤ sizeLine) = true := len_line (by omega)
  exact ⟨_, none, by unfold sIx; rw [ha, e']; simp [hs, ec], ⟨#[c]⟩, rfl, Nat.le_refl _⟩
/-- an item of a list at a place that lies within -/
theorem et_item {R : D → Prop} (ha : EvT sa ρ (IsL R m n)) (hb : EvT sb ρ (IsE i)) (h0 : 0 ≤ i) (h1 : i < m) : EvT (sIx sa sb) ρ (fun d _ => R d) := by
  obtain ⟨d, k, e, ds, rfl, hd, hm, hn⟩ := ha
  obtain ⟨d', k', e', rfl⟩ := hb
  obtain ⟨z, ez, hz⟩ := atI_in (ds := ds) h0 (by omega)
  exact ⟨z, kd z k, by unfold sIx; rw [e, e']; simp [ez], hd z hz⟩
theorem et_lenS (ha : EvT sa ρ (fun d _ => ∃ x, d = .str x ∧ x.length ≤ m)) (h : m ≤ 16777216) : ∃ x : Str, x.length ≤ m ∧ EvT (sCall gLen (sACons sa sANil)) ρ (IsE x.length) := by
  obtain ⟨d, k, e, x, rfl, hx⟩ := ha
  have hs : okP (x.length ≤ sizeLine) = true := len_line (by omega)
  exact ⟨x, hx, _, none, by unfold sCall sACons sANil; rw [e]; simp [dsOf, gLen, hs], rfl⟩
theorem et_lenV {x : Str} {k0 : Kd} (ha : sa ρ = some (.str x, k0)) (h : x.length ≤ 16777216) : EvT (sCall gLen (sACons sa sANil)) ρ (IsE x.length) := by
  have hs : okP (x.length ≤ sizeLine) = true := len_line (by omega)
  exact ⟨_, none, by unfold sCall sACons sANil; rw [ha]; simp [dsOf, gLen, hs], rfl⟩
def TvT (t : ST) (ρ : DEnv) (b : Bool) : Prop := t ρ = some b
theorem et_upper3 (ha : EvT sa ρ (IsS m)) (h : m ≤ 5592405) : EvT (sUpper sa) ρ (IsS (3 * m)) := et_upper ha h fun x hx => by
  have := len_upper x
  omega
theorem et_at {R : D → Prop} {ds : List D} {k0 : Kd} (ha : sa ρ = some (.lst ds, k0)) (hb : EvT sb ρ (IsE i)) (h0 : 0 ≤ i) (h1 : i < ds.length) (hR : ∀ z ∈ ds, R z) : EvT (sIx sa sb) ρ (fun d _ => R d) :=
  et_item (m := ds.length) (n := ds.length) ⟨_, _, ha, ds, rfl, hR, Nat.le_refl _, Nat.le_refl _⟩ hb h0 h1
/-- displays -/
def EaT : SA → DEnv → List (D × Kd) → Prop := fun t ρ l => t ρ = some l
theorem ea_nil : EaT sANil ρ [] := rfl
theorem ea_cons {d : D} {k : Kd} {t : SA} {l : List (D × Kd)} (h : sa ρ = some (d, k)) (ht : EaT t ρ l) : EaT (sACons sa t) ρ ((d, k) :: l) := by
  unfold EaT sACons at *
  rw [h, ht]
theorem ea_c {d : D} {t : SA} {l : List (D × Kd)} (ht : EaT t ρ l) : EaT (sACons (sC d) t) ρ ((d, none) :: l) := ea_cons rfl ht
theorem ev_lst {t : SA} {l : List (D × Kd)} (h : EaT t ρ l) (hl : l.length ≤ 16777216) : sLst t ρ = some (.lst (dsOf l), kds (dsOf l) (kAll l)) := by
  unfold sLst
  rw [show t ρ = some l from h]
  show (if okP (l.length ≤ sizeLine) = true then _ else _) = _
  rw [if_pos (len_line hl)]
theorem ev_tup {t : SA} {l : List (D × Kd)} (h : EaT t ρ l) (hl : l.length ≤ 16777216) : sTup t ρ = some (.tup (dsOf l), kds (dsOf l) (kAll l)) := by
  unfold sTup
  rw [show t ρ = some l from h]
  show (if okP (l.length ≤ sizeLine) = true then _ else _) = _
  rw [if_pos (len_line hl)]
theorem et_call {gf : FS} {n : Nat} {t : SA} {l : List (D × Kd)} {d : D} {us : List D} {P : DP} (h1 : t ρ = some l) (h2 : l.length = n) (h3 : gf (dsOf l) = .ok d us) (h4 : P d none) : EvT (sCallF gf n t) ρ P :=
  ⟨d, none, by unfold sCallF; rw [h1]; simp [h2, h3], h4⟩
theorem et_call1 {gf : FS} {Pa Q : D → Prop} (ha : EvT sa ρ (fun d _ => Pa d)) (h : ∀ a, Pa a → ∃ us d, gf [a] = .ok d us ∧ Q d) : EvT (sCallF gf 1 (sACons sa sANil)) ρ (fun d k => Q d ∧ k = none) := by
  obtain ⟨a, k, e, p⟩ := ha
  obtain ⟨us, d, e2, q⟩ := h a p
  exact et_call (l := [(a, k)]) (ea_cons e ea_nil) rfl e2 ⟨q, rfl⟩
theorem et_call2 {gf : FS} {Pa Pb Q : D → Prop} (ha : EvT sa ρ (fun d _ => Pa d)) (hb : EvT sb ρ (fun d _ => Pb d)) (h : ∀ a b, Pa a → Pb b → ∃ us d, gf [a, b] = .ok d us ∧ Q d) : EvT (sCallF gf 2 (sACons sa (sACons sb sANil))) ρ (fun d k => Q d ∧ k = none) := by
  obtain ⟨a, k, e, p⟩ := ha
  obtain ⟨b, k', e', p'⟩ := hb
  obtain ⟨us, d, e2, q⟩ := h a b p p'
  exact et_call (l := [(a, k), (b, k')]) (ea_cons e (ea_cons e' ea_nil)) rfl e2 ⟨q, rfl⟩
/-- a call's arguments, each told -/
def EdT (t : SA) (ρ : DEnv) (ds : List D) : Prop := ∃ l, t ρ = some l ∧ dsOf l = ds
def IsD (d : D) : DP := fun x _ => x = d
theorem ed_nil : EdT sANil ρ [] := ⟨[], rfl, rfl⟩
theorem ed_cons {d : D} {t : SA} {ds : List D} (h : EvT sa ρ (IsD d)) (ht : EdT t ρ ds) : EdT (sACons sa t) ρ (d :: ds) := by
  obtain ⟨d', k, e, rfl⟩ := h
  obtain ⟨l, e2, rfl⟩ := ht
  exact ⟨(d', k) :: l, ea_cons e e2, rfl⟩
theorem ed_int {t : SA} {ds : List D} (h : EvT sa ρ (IsE i)) (ht : EdT t ρ ds) : EdT (sACons sa t) ρ (.int i :: ds) := ed_cons h ht
theorem ed_v {k : Nat} {d : D} {md : Md} {t : SA} {ds : List D} (h : ρ[k]? = some (some (d, md))) (ht : EdT t ρ ds) : EdT (sACons (sV k) t) ρ (d :: ds) := ed_cons (et_var h rfl) ht
theorem et_callD {gf : FS} {n : Nat} {t : SA} {ds us : List D} {d : D} {P : D → Prop} (h : EdT t ρ ds) (hn : ds.length = n) (h3 : gf ds = .ok d us) (hp : P d) : EvT (sCallF gf n t) ρ (fun d k => P d ∧ k = none) := by
  obtain ⟨l, e, rfl⟩ := h
  exact et_call e (by rw [← hn]; simp [dsOf]) h3 ⟨hp, rfl⟩
/-- joined texts -/
theorem strs_all {n : Nat} : ∀ {ds : List D}, (∀ d ∈ ds, PS_ n d) → ∃ ys, strsD ds = some ys ∧ ys.length = ds.length ∧ (ys.map (·.length)).sum ≤ n * ds.length
  | [], _ => ⟨[], rfl, rfl, by simp⟩
  | d :: ds, h => by
    obtain ⟨x, rfl, hx⟩ := h d List.mem_cons_self
    obtain ⟨ys, e, l, s⟩ := strs_all (ds := ds) fun z hz => h z (List.mem_cons_of_mem _ hz)
    refine ⟨x :: ys, by unfold strsD; rw [e], by simp [l], ?_⟩
    rw [List.map_cons, List.sum_cons, List.length_cons, Nat.mul_add]
    omega
theorem len_join0 : ∀ ys : List Str, (Str.join (Str.ofString "") ys).length = (ys.map (·.length)).sum
  | [] => rfl
  | a :: l => by
    rw [len_join_cons]
    have e0 : (Str.ofString "").length = 0 := rfl
    rw [e0]
    omega
theorem et_join0 {L : Nat} (hb : EvT sb ρ (fun d _ => ∃ ds, d = .lst ds ∧ (∀ x ∈ ds, PS_ n x) ∧ ds.length ≤ L)) (h : n * L ≤ 16777216) : EvT (sJoin (sC (.str (Str.ofString ""))) sb) ρ (IsS (n * L)) := by
  obtain ⟨d, k, e, ds, rfl, hd, hL⟩ := hb
  obtain ⟨ys, e2, hl, hs⟩ := strs_all hd
  have hm : n * ds.length ≤ n * L := Nat.mul_le_mul_left n hL
  have e0 : (Str.ofString "").length = 0 := rfl
  have hj : joinOk (Str.ofString "") ys = true := okT (by rw [e0]; omega)
  exact ⟨_, none, by unfold sJoin sC; rw [e]; simp only [e2]; rw [if_pos hj], _, rfl, by rw [len_join0]; omega⟩
/-- comprehensions: what holds of every item -/
theorem et_lc {it : SI} {vs : List Nat} {g : SG} {tt : ST} {te : SE} {ds : List D} {k : Kd} {Pd : D → Prop} (h1 : it ρ = some (ds, k)) (hl : ds.length ≤ 16777216) (H : ∀ d ∈ ds, ∃ ρ1, g d (kOr k) (wipeD ρ vs) = some ρ1 ∧ (TvT tt ρ1 false ∨ (TvT tt ρ1 true ∧ EvT te ρ1 (fun y k' => (y.imm = true ∨ k' = none) ∧ Pd y)))) : EvT (sLc it vs g tt te) ρ (fun d _ => ∃ ys, d = .lst ys ∧ (∀ x ∈ ys, Pd x) ∧ ys.length ≤ ds.length) := by
  obtain ⟨ys, e, hp, hle⟩ := lcS_all (k := kOr k) (g := g) (tt := tt) (te := te) (ρ := wipeD ρ vs) Pd ds fun d hd => by
    obtain ⟨ρ1, h2, h3⟩ := H d hd
    exact ⟨ρ1, h2, h3.imp id fun ⟨h4, y, k', h5, h6, h7⟩ => ⟨h4, y, k', h5, h6, h7⟩⟩
  exact ⟨.lst ys, none, by unfold sLc; rw [h1]; simp only [e]; rw [if_pos (len_line hl)], ys, rfl, hp, hle⟩
theorem it_rng1 {i : Int} (h : EvT sa ρ (IsE i)) (h0 : -4611686018427387904 ≤ i) (h1 : i < 4611686018427387904) : sRng (sACons sa sANil) ρ = some (rngD 0 i.toNat, none) := by
  obtain ⟨d, k, e, rfl⟩ := h
  unfold sRng sACons sANil
  rw [e]
  show (if okP (-(2 ^ 62) ≤ i ∧ i < 2 ^ 62) = true then _ else _) = _
  rw [if_pos (okT ⟨by omega, by omega⟩)]
theorem len_rng {lo : Int} {n : Nat} : (rngD lo n).length = n := by simp [rngD]
theorem mem_rng {lo : Int} {n : Nat} {d : D} (h : d ∈ rngD lo n) : ∃ i : Nat, i < n ∧ d = .int (lo + i) := by
  unfold rngD at h
  simp at h
  obtain ⟨i, hi, rfl⟩ := h
  exact ⟨i, hi, rfl⟩
/-- tests -/
theorem tt_val {b : Bool} (h : EvT s ρ (IsB b)) : TvT (sT s) ρ b := by
  obtain ⟨d, k, e, rfl⟩ := h
  unfold TvT sT
  rw [e]
theorem tt_not {t : ST} {b : Bool} (h : TvT t ρ b) : TvT (tNotS t) ρ (!b) := by
  unfold TvT at h ⊢
  unfold tNotS
  rw [h]
  rfl
theorem tt_and {t u : ST} {b c : Bool} (h : TvT t ρ b) (h2 : b = true → TvT u ρ c) : TvT (tAndS t u) ρ (b && c) := by
  unfold TvT at h h2 ⊢
  unfold tAndS
  rw [h]
  cases b with
  | true => exact h2 rfl
  | false => rfl
theorem tt_or {t u : ST} {b c : Bool} (h : TvT t ρ b) (h2 : b = false → TvT u ρ c) : TvT (tOrS t u) ρ (b || c) := by
  unfold TvT at h h2 ⊢
  unfold tOrS
  rw [h]
  cases b with
  | true => rfl
  | false => exact h2 rfl
end
/-! ### statements: what is wanted of an outcome -/
def W (Φ : Out → Prop) (o : Out) : Prop := Φ o
def SeqK (u : SS) (Φ : Out → Prop) : Out → Prop
  | .nx ρ => W Φ (u ρ)
  | o => Φ o
section
variable {Φ : Out → Prop} {ρ ρ' : DEnv} {s : SE} {sx : SX} {t u : SS} {g : SG} {P : DP}
theorem wSeq (h : W (SeqK u Φ) (t ρ)) : W Φ (sSeq t u ρ) := by
  unfold W at h ⊢
  unfold sSeq
  cases e : t ρ <;> (rw [e] at h; exact h)
theorem wNx (h : W Φ (u ρ)) : W (SeqK u Φ) (.nx ρ) := h
theorem wRt {d : D} (h : W Φ (.rt d ρ)) : W (SeqK u Φ) (.rt d ρ) := h
theorem wCt (h : W Φ (.ct ρ)) : W (SeqK u Φ) (.ct ρ) := h
theorem wAsg {d : D} {k : Kd} (h1 : s ρ = some (d, k)) (h2 : g d k ρ = some ρ') (h3 : W Φ (.nx ρ')) : W Φ (sAsg (sX s) g ρ) := by
  unfold W at h3 ⊢
  unfold sAsg sX
  rw [h1]
  simp only [h2]
  exact h3
/-- a number is stored -/
theorem wAsgE {i : Nat} {n : Int} (h1 : EvT s ρ (IsE n)) (h2 : setS i (.int n) none ρ = some ρ') (h3 : W Φ (.nx ρ')) : W Φ (sAsg (sX s) (setS i) ρ) := by
  obtain ⟨d, k, e, rfl⟩ := h1
  exact wAsg e (by rw [← h2]; unfold setS; simp [D.imm]) h3
theorem wAsgB {i : Nat} {b : Bool} (h1 : EvT s ρ (IsB b)) (h2 : setS i (.bl b) none ρ = some ρ') (h3 : W Φ (.nx ρ')) : W Φ (sAsg (sX s) (setS i) ρ) := by
  obtain ⟨d, k, e, rfl⟩ := h1
  exact wAsg e (by rw [← h2]; unfold setS; simp [D.imm]) h3
/-- a text is stored, which one is forgotten -/
theorem wAsgS {i n : Nat} {f : Str → DEnv} (h1 : EvT s ρ (IsS n)) (h2 : ∀ x, setS i (.str x) none ρ = some (f x)) (h3 : ∀ x : Str, x.length ≤ n → W Φ (.nx (f x))) : W Φ (sAsg (sX s) (setS i) ρ) := by
  obtain ⟨d, k, e, x, rfl, hx⟩ := h1
  exact wAsg e (by rw [← h2 x]; unfold setS; simp [D.imm]) (h3 x hx)
theorem wAsgP {i : Nat} {P : D → Prop} {md : Option (D × Md)} (h1 : EvT s ρ (fun d _ => P d)) (him : ∀ d, P d → d.imm = true) (hi : ρ[i]? = some md) (hm : ∀ d, md ≠ some (d, .arg)) (h3 : ∀ d, P d → W Φ (.nx (ρ.set i (some (d, .own))))) : W Φ (sAsg (sX s) (setS i) ρ) := by
  obtain ⟨d, k, e, p⟩ := h1
  refine wAsg e ?_ (h3 d p)
  unfold setS
  rw [hi]
  cases md with
  | none => simp [him d p]
  | some q =>
    obtain ⟨d', m⟩ := q
    cases m with
    | arg => exact absurd rfl (hm d')
    | own => simp [him d p]
    | shr => simp [him d p]
theorem wAsgC {i : Nat} {d : D} (h2 : setS i d none ρ = some ρ') (h3 : W Φ (.nx ρ')) : W Φ (sAsg (sX (sC d)) (setS i) ρ) := wAsg rfl h2 h3
theorem wIf {c : ST} {b : Bool} (h1 : TvT c ρ b) (ht : b = true → W Φ (t ρ)) (hf : b = false → W Φ (u ρ)) : W Φ (sIfS (sB c) t u ρ) := by
  unfold TvT at h1
  unfold W at ht hf ⊢
  unfold sIfS sB
  rw [h1]
  cases b with
  | true => exact ht rfl
  | false => exact hf rfl
theorem wNil (h : W Φ (.nx ρ)) : W Φ (sNil ρ) := h
theorem wRet {d : D} {k : Kd} (h1 : s ρ = some (d, k)) (h2 : d.imm = true ∨ k = none) (h3 : W Φ (.rt d ρ)) : W Φ (sRet (sX s) ρ) := by
  unfold W at h3 ⊢
  unfold sRet sX
  rw [h1]
  by_cases im : d.imm = true
  · simp only [im, if_true]; exact h3
  · rcases h2 with h2 | h2
    · exact absurd h2 im
    · subst h2
      simp only [im]
      exact h3
theorem wRetE {n : Int} (h1 : EvT s ρ (IsE n)) (h3 : W Φ (.rt (.int n) ρ)) : W Φ (sRet (sX s) ρ) := by
  obtain ⟨d, k, e, rfl⟩ := h1
  exact wRet e (.inl rfl) h3
theorem wRetB {b : Bool} (h1 : EvT s ρ (IsB b)) (h3 : W Φ (.rt (.bl b) ρ)) : W Φ (sRet (sX s) ρ) := by
  obtain ⟨d, k, e, rfl⟩ := h1
  exact wRet e (.inl rfl) h3
theorem wRetS {n : Nat} (h1 : EvT s ρ (IsS n)) (h3 : ∀ x : Str, x.length ≤ n → W Φ (.rt (.str x) ρ)) : W Φ (sRet (sX s) ρ) := by
  obtain ⟨d, k, e, x, rfl, hx⟩ := h1
  exact wRet e (.inl rfl) (h3 x hx)
theorem wRetV {i : Nat} {d : D} {m : Md} (h1 : ρ[i]? = some (some (d, m))) (h2 : d.imm = true ∨ m = .own) (h3 : W Φ (.rt d ρ)) : W Φ (sRetV i ρ) := by
  unfold W at h3 ⊢
  unfold sRetV
  rw [h1]
  cases m with
  | own => exact h3
  | shr =>
    rcases h2 with h2 | h2
    · simp only [h2, if_true]; exact h3
    · cases h2
  | arg =>
    rcases h2 with h2 | h2
    · simp only [h2, if_true]; exact h3
    · cases h2
/-- what is wanted of a def's outcome -/
def RtP (n : Nat) (P : D → Prop) : Out → Prop
  | .rt d ρ => n ≤ ρ.length ∧ P d
  | .nx ρ => n ≤ ρ.length ∧ P .non
  | _ => False
theorem rtS {n m : Nat} {x : Str} (h1 : n ≤ ρ.length) (h2 : x.length ≤ m) : W (RtP n (PS_ m)) (.rt (.str x) ρ) := ⟨h1, x, rfl, h2⟩
theorem rtP {n : Nat} {P : D → Prop} {d : D} (h1 : n ≤ ρ.length) (h2 : P d) : W (RtP n P) (.rt d ρ) := ⟨h1, h2⟩
theorem wRetP {P : D → Prop} (h : EvT s ρ (fun d k => P d ∧ k = none)) (q : ∀ d, P d → W Φ (.rt d ρ)) : W Φ (sRet (sX s) ρ) := by
  obtain ⟨d, k, e, p, hk⟩ := h
  exact wRet e (.inr hk) (q d p)
theorem fn_w {N : Nat} {io : List Bool} {b : SS} {ds : List D} {P : D → Prop} (hio : io.all (!·) = true) (h : W (RtP io.length P) (b (argEnv io ds ++ List.replicate (N - ds.length) none))) : ∃ us d, noEx (fnOf N io b) ds = .ok d us ∧ P d := by
  unfold W at h
  cases e : b (argEnv io ds ++ List.replicate (N - ds.length) none) with
  | rt d ρ =>
    rw [e] at h
    obtain ⟨us, hu⟩ := outArgs_ro hio h.1
    exact ⟨us, d, fn_ok e hu, h.2⟩
  | nx ρ =>
    rw [e] at h
    obtain ⟨us, hu⟩ := outArgs_ro hio h.1
    refine ⟨us, .non, ?_, h.2⟩
    unfold noEx fnOf
    rw [e]
    show (match (match outArgs io ρ with | some us => FO.ok D.non us | none => .bad) with | .ex _ => FO.bad | o => o) = _
    rw [hu]
  | ct ρ => rw [e] at h; exact h.elim
  | bk ρ => rw [e] at h; exact h.elim
  | ex x ρ => rw [e] at h; exact h.elim
  | bad => rw [e] at h; exact h.elim
end
end DL
end DLsec13
set_option maxRecDepth 100000
noncomputable section DLsec14
/-! DL14: texts, signs, truths: exact values. -/
namespace DL
open PySem PySem.Spec PyProof.Rows L2
section
variable {s sa sb : SE} {ρ : DEnv} {i j : Int} {m n : Nat} {x y : Str} {a b : Bool}
/-- just that text -/
def IsX (x : Str) : DP := fun d _ => d = .str x
theorem ex_c : EvT (sC (.str x)) ρ (IsX x) := ⟨_, _, rfl, rfl⟩
theorem et_eqS (ha : EvT sa ρ (IsX x)) (hb : EvT sb ρ (IsX y)) : EvT (sOp fEq sa sb) ρ (IsB (okP (x = y))) := by
  obtain ⟨d, k, e, rfl⟩ := ha
  obtain ⟨d', k', e', rfl⟩ := hb
  exact ⟨.bl (okP (x = y)), none, by unfold sOp; rw [e, e']; simp [fCmp, D.sc, scal], rfl⟩
theorem et_neS (ha : EvT sa ρ (IsX x)) (hb : EvT sb ρ (IsX y)) : EvT (sOp fNe sa sb) ρ (IsB (!okP (x = y))) := by
  obtain ⟨d, k, e, rfl⟩ := ha
  obtain ⟨d', k', e', rfl⟩ := hb
  exact ⟨.bl (!okP (x = y)), none, by unfold sOp; rw [e, e']; simp [fCmp, D.sc, scal], rfl⟩
theorem et_eqB (ha : EvT sa ρ (IsB a)) (hb : EvT sb ρ (IsB b)) : EvT (sOp fEq sa sb) ρ (IsB (okP (a = b))) := by
  obtain ⟨d, k, e, rfl⟩ := ha
  obtain ⟨d', k', e', rfl⟩ := hb
  exact ⟨.bl (okP (a = b)), none, by unfold sOp; rw [e, e']; simp [fCmp, D.sc, scal], rfl⟩
theorem et_andB (ha : EvT sa ρ (IsB a)) (hb : a = true → EvT sb ρ (IsB b)) : EvT (sAnd sa sb) ρ (IsB (a && b)) := by
  obtain ⟨d, k, e, rfl⟩ := ha
  cases a with
  | true =>
    obtain ⟨d', k', e', rfl⟩ := hb rfl
    exact ⟨.bl b, k', by unfold sAnd; rw [e]; exact e', rfl⟩
  | false => exact ⟨.bl false, none, by unfold sAnd; rw [e], rfl⟩
theorem et_orB (ha : EvT sa ρ (IsB a)) (hb : a = false → EvT sb ρ (IsB b)) : EvT (sOr sa sb) ρ (IsB (a || b)) := by
  obtain ⟨d, k, e, rfl⟩ := ha
  cases a with
  | true => exact ⟨.bl true, none, by unfold sOr; rw [e], rfl⟩
  | false =>
    obtain ⟨d', k', e', rfl⟩ := hb rfl
    exact ⟨.bl b, k', by unfold sOr; rw [e]; exact e', rfl⟩
theorem et_inT {ds : List D} {ws : List V} {k0 : Kd} (ha : EvT sa ρ (IsX x)) (hb : sb ρ = some (.tup ds, k0)) (hs : scs ds = some ws) : EvT (sOp (fIn false) sa sb) ρ (IsB (inV (.str x) ws)) := by
  obtain ⟨d, k, e, rfl⟩ := ha
  exact ⟨_, none, by unfold sOp; rw [e, hb]; simp [fIn, D.sc, hs], rfl⟩
theorem et_inL {ds : List D} {ws : List V} {k0 : Kd} (ha : EvT sa ρ (IsX x)) (hb : sb ρ = some (.lst ds, k0)) (hs : scs ds = some ws) : EvT (sOp (fIn false) sa sb) ρ (IsB (inV (.str x) ws)) := by
  obtain ⟨d, k, e, rfl⟩ := ha
  exact ⟨_, none, by unfold sOp; rw [e, hb]; simp [fIn, D.sc, hs], rfl⟩
theorem et_inS {c : Nat} (ha : EvT sa ρ (IsX ⟨#[c]⟩)) (hb : EvT sb ρ (IsX y)) : EvT (sOp (fInS false) sa sb) ρ (IsB (okP (c ∈ y.cps.toList))) := by
  obtain ⟨d, k, e, rfl⟩ := ha
  obtain ⟨d', k', e', rfl⟩ := hb
  exact ⟨_, none, by unfold sOp; rw [e, e']; simp [fInS, sign1], rfl⟩
theorem ex_cut {lo hi : DEnv → Option (Option Int)} {l u : Option Int} (ha : EvT sa ρ (IsX x)) (hl : lo ρ = some l) (hu : hi ρ = some u) (h : x.length ≤ 16777216) : EvT (sSl sa lo hi) ρ (IsX (cutS x l u)) := by
  obtain ⟨d, k, e, rfl⟩ := ha
  have hs : okP (x.length ≤ sizeLine) = true := len_line (by omega)
  exact ⟨_, none, by unfold sSl; rw [e, hl, hu]; simp [hs], rfl⟩
theorem ex_len (ha : EvT sa ρ (IsX x)) (h : x.length ≤ 16777216) : EvT (sCall gLen (sACons sa sANil)) ρ (IsE x.length) := by
  obtain ⟨d, k, e, rfl⟩ := ha
  exact et_lenV e h
theorem bls_map {α : Type} (p : α → Bool) : ∀ l : List α, bls (l.map fun c => D.bl (p c)) = some (l.map p)
  | [] => rfl
  | a :: l => by rw [List.map_cons, bls, bls_map p l]; rfl
/-- are all signs so -/
theorem et_allS {vs : List Nat} {g : SG} {te : SE} (p : Nat → Bool) (ha : EvT sa ρ (IsX x)) (hx : x.length ≤ 16777216) (H : ∀ c ∈ x.cps.toList, ∃ ρ1, g (.str ⟨#[c]⟩) (kOr none) (wipeD ρ vs) = some ρ1 ∧ EvT te ρ1 (IsB (p c))) : EvT (sCall gAll (sACons (sLc (sItS sa) vs g tYesS te) sANil)) ρ (IsB (x.cps.toList.all p)) := by
  obtain ⟨d, k, e, rfl⟩ := ha
  have h := lcS_map (k := kOr none) (g := g) (tt := tYesS) (te := te) (ρ := wipeD ρ vs) (fun c => D.str ⟨#[c]⟩) (fun c => D.bl (p c)) x.cps.toList fun c hc => by
    obtain ⟨ρ1, h1, d, k', h2, rfl⟩ := H c hc
    exact ⟨ρ1, k', h1, rfl, h2, .inl rfl⟩
  have hl : okP ((signsD x).length ≤ sizeLine) = true := len_line (by simpa [signsD, Str.length] using hx)
  have e1 : sLc (sItS sa) vs g tYesS te ρ = some (.lst (x.cps.toList.map fun c => D.bl (p c)), none) := by
    unfold sLc sItS
    rw [e]
    show (match lcS (kOr none) g tYesS te (signsD x) (wipeD ρ vs) with | some ys => _ | none => _) = _
    unfold signsD at hl ⊢
    rw [h]
    simp only [hl, if_true]
  refine ⟨.bl (x.cps.toList.all p), none, ?_, rfl⟩
  unfold sCall sACons sANil
  rw [e1]
  have e2 : gAll [.lst (x.cps.toList.map fun c => D.bl (p c))] = some (.bl (x.cps.toList.all p)) := by
    show (match bls (x.cps.toList.map fun c => D.bl (p c)) with | some bs => some (D.bl (bs.all id)) | none => none) = _
    rw [bls_map]
    simp [List.all_map]
  show (match gAll [.lst (x.cps.toList.map fun c => D.bl (p c))] with | some z => some (z, none) | none => none) = _
  rw [e2]
/-- those signs that are so -/
theorem ev_signsP {vs : List Nat} {g : SG} {tt : ST} {te : SE} (p : Nat → Bool) (ha : EvT sa ρ (IsX x)) (hx : x.length ≤ 16777216) (H : ∀ c ∈ x.cps.toList, ∃ ρ1, g (.str ⟨#[c]⟩) (kOr none) (wipeD ρ vs) = some ρ1 ∧ TvT tt ρ1 (p c) ∧ EvT te ρ1 (IsX ⟨#[c]⟩)) : sLc (sItS sa) vs g tt te ρ = some (.lst ((x.cps.toList.filter p).map fun c => D.str ⟨#[c]⟩), none) := by
  obtain ⟨d, k, e, rfl⟩ := ha
  have h := lcS_filter (k := kOr none) (g := g) (tt := tt) (te := te) (ρ := wipeD ρ vs) (fun c => D.str ⟨#[c]⟩) (fun c => D.str ⟨#[c]⟩) p x.cps.toList fun c hc => by
    obtain ⟨ρ1, h1, ht, d, k', h2, rfl⟩ := H c hc
    exact ⟨ρ1, h1, ht, fun _ => ⟨k', h2, .inl rfl⟩⟩
  have hl : okP ((signsD x).length ≤ sizeLine) = true := len_line (by simpa [signsD, Str.length] using hx)
  unfold sLc sItS
  rw [e]
  show (match lcS (kOr none) g tt te (signsD x) (wipeD ρ vs) with | some ys => _ | none => _) = _
  unfold signsD at hl ⊢
  rw [h]
  simp only [hl, if_true]
theorem et_lenL {ds : List D} {k0 : Kd} (ha : sa ρ = some (.lst ds, k0)) : EvT (sCall gLen (sACons sa sANil)) ρ (IsE ds.length) :=
  ⟨_, none, by unfold sCall sACons sANil; rw [ha]; rfl, rfl⟩
theorem all_filter (p : Nat → Bool) (l : List Nat) : okP ((((l.filter p).map fun c => D.str ⟨#[c]⟩).length : Int) = (l.length : Int)) = l.all p := by
  rw [List.length_map]
  by_cases h : l.all p = true
  · rw [h]
    have := List.length_filter_eq_length_iff.mpr (List.all_eq_true.mp h)
    exact okT (by omega)
  · rw [Bool.not_eq_true] at h
    rw [h]
    refine okF fun e => ?_
    have e2 : (l.filter p).length = l.length := by omega
    have := List.all_eq_true.mpr (List.length_filter_eq_length_iff.mp e2)
    rw [h] at this
    cases this
theorem len_signs (x : Str) : x.cps.toList.length = x.length := by simp [Str.length]
/-- a text's first sign, and the text behind it -/
theorem cut_head (x : Str) : (cutS x none (some 1)).cps.toList = x.cps.toList.take 1 := by
  have e : HT.sIx x.length 0 none = 0 := rfl
  have e2 : HT.sIx x.length x.length (some 1) = min 1 x.length := HT.sIx_nat _ _ 1
  unfold cutS
  rw [e, e2]
  simp only [List.drop_zero, Nat.sub_zero]
  rw [← len_signs x, List.take_eq_take_iff]
  omega
theorem cut_tail (x : Str) : (cutS x (some 1) none).cps.toList = x.cps.toList.drop 1 := by
  have e : HT.sIx x.length x.length none = x.length := rfl
  have e2 : HT.sIx x.length 0 (some 1) = min 1 x.length := HT.sIx_nat _ _ 1
  unfold cutS
  rw [e, e2, ← len_signs x]
  simp only
  rw [List.take_of_length_le (by rw [List.length_drop]; omega)]
  cases h : x.cps.toList with
  | nil => rfl
  | cons c l => rw [List.length_cons, Nat.min_eq_left (by omega)]
theorem str_ext {x y : Str} (h : x.cps.toList = y.cps.toList) : x = y := by
  cases x with | mk a => cases y with | mk b => exact congrArg _ (Array.toList_inj.mp h)
/-- a list of which each item is so, of at most n items -/
def PL_ (P : D → Prop) (n : Nat) : D → Prop := fun d => ∃ ds, d = .lst ds ∧ (∀ x ∈ ds, P x) ∧ ds.length ≤ n
theorem imms_all : ∀ {ds : List D}, (∀ x ∈ ds, x.imm = true) → imms ds = true
  | [], _ => rfl
  | d :: ds, h => by
    unfold imms
    rw [h d List.mem_cons_self, imms_all fun x hx => h x (List.mem_cons_of_mem _ hx)]
    rfl
theorem kds_imm {ds : List D} {k : Kd} (h : ∀ x ∈ ds, x.imm = true) : kds ds k = none := by
  unfold kds
  rw [imms_all h]
  rfl
theorem et_lstP {t : SA} {l : List (D × Kd)} {P : D → Prop} (h : EaT t ρ l) (hP : ∀ x ∈ dsOf l, P x) (hi : ∀ d, P d → d.imm = true) (hn : l.length ≤ n) (hl : n ≤ 16777216) : EvT (sLst t) ρ (fun d k => PL_ P n d ∧ k = none) :=
  ⟨_, _, ev_lst h (by omega), ⟨_, rfl, hP, by simpa [dsOf] using hn⟩, kds_imm fun x hx => hi x (hP x hx)⟩
theorem et_catL {P : D → Prop} (ha : EvT sa ρ (fun d _ => PL_ P m d)) (hb : EvT sb ρ (fun d _ => PL_ P n d)) (hi : ∀ d, P d → d.imm = true) (h : m + n ≤ 16777216) : EvT (sCatL sa sb) ρ (fun d k => PL_ P (m + n) d ∧ k = none) := by
  obtain ⟨d, k, e, ds, rfl, h1, h2⟩ := ha
  obtain ⟨d', k', e', es, rfl, h3, h4⟩ := hb
  have hp : ∀ x ∈ ds ++ es, P x := fun x hx => (List.mem_append.mp hx).elim (h1 x) (h3 x)
  refine ⟨.lst (ds ++ es), none, ?_, ⟨_, rfl, hp, by rw [List.length_append]; omega⟩, rfl⟩
  unfold sCatL
  rw [e, e']
  show (if okP (ds.length + es.length ≤ sizeLine) = true then some (D.lst (ds ++ es), kds (ds ++ es) (kj k k')) else none) = _
  rw [if_pos (len_line (by omega)), kds_imm fun x hx => hi x (hp x hx)]
theorem wAsgL {Φ : Out → Prop} {k : Nat} {Q : D → Prop} {md : Option (D × Md)} (h1 : EvT s ρ (fun d k => Q d ∧ k = none)) (hi : ρ[k]? = some md) (hm : ∀ d, md ≠ some (d, .arg)) (h3 : ∀ d, Q d → W Φ (.nx (ρ.set k (some (d, .own))))) : W Φ (sAsg (sX s) (setS k) ρ) := by
  obtain ⟨d, kk, e, q, rfl⟩ := h1
  refine wAsg e ?_ (h3 d q)
  unfold setS
  rw [hi]
  cases md with
  | none => by_cases h : d.imm = true <;> simp [h]
  | some p =>
    obtain ⟨d', m'⟩ := p
    cases m' with
    | arg => exact absurd rfl (hm d')
    | own => by_cases h : d.imm = true <;> simp [h]
    | shr => by_cases h : d.imm = true <;> simp [h]
theorem mem_cutD {ds : List D} {lo hi : Option Int} {d : D} (h : d ∈ cutD ds lo hi) : d ∈ ds := List.mem_of_mem_drop (List.mem_of_mem_take h)
theorem len_cutD {ds : List D} {lo hi : Option Int} : (cutD ds lo hi).length ≤ ds.length := by
  unfold cutD
  rw [List.length_take, List.length_drop]
  omega
/-- a loop over a list of immutable items that always goes on -/
theorem wFor {Φ : Out → Prop} {it : SI} {k : Nat} {body : SS} {ds : List D} (I : DEnv → Prop) (h1 : it ρ = some (ds, none)) (h0 : I ρ) (H : ∀ d ∈ ds, ∀ ρ, I ρ → ∃ ρ1 ρ2, setS k d (some []) ρ = some ρ1 ∧ (body ρ1 = .nx ρ2 ∨ body ρ1 = .ct ρ2) ∧ I ρ2) (h3 : ∀ ρ', I ρ' → W Φ (.nx ρ')) : W Φ (sFor it (setS k) body ρ) := by
  obtain ⟨ρ', e, hI⟩ := loopS_inv (g := setS k) (body := body) I ds ρ h0 H
  unfold sFor
  rw [h1]
  show W Φ (loopS (setS k) body ds ρ)
  rw [e]
  exact h3 ρ' hI
theorem len_times (x : Str) (i : Int) : (timesS x i).length = x.length * i.toNat := by
  show ((List.replicate i.toNat x.cps.toList).flatten.toArray).size = _
  rw [List.size_toArray, List.length_flatten, List.map_replicate, List.sum_replicate_nat, len_signs, Nat.mul_comm]
theorem et_repS (ha : EvT sa ρ (IsX x)) (hb : EvT sb ρ (IsE i)) (h1 : -1000 ≤ i) (h2 : i ≤ 1000) (h3 : x.length ≤ 1000) (hn : x.length * i.toNat ≤ n) (hn2 : n ≤ 16777216) : EvT (sOp fRepS sa sb) ρ (IsS n) := by
  obtain ⟨d, k, e, rfl⟩ := ha
  obtain ⟨d', k', e', rfl⟩ := hb
  have hc : okP (-(2 ^ 62) < i ∧ i < 2 ^ 24 ∧ x.length < 2 ^ 24 ∧ x.length * i.toNat ≤ sizeLine) = true := okT ⟨by omega, by omega, by omega, by rw [sLine]; omega⟩
  have hf : fRepS (.str x) (.int i) = some (.str (timesS x i)) := by
    show (if okP _ = true then _ else _) = _
    rw [if_pos hc]
  exact ⟨.str (timesS x i), none, by unfold sOp; rw [e, e']; show (match fRepS (.str x) (.int i) with | some z => some (z, none) | none => none) = _; rw [hf], _, rfl, by rw [len_times]; exact hn⟩
theorem it_lst {t : SA} {l : List (D × Kd)} (h : EaT t ρ l) (hl : l.length ≤ 16777216) : sIt (sLst t) ρ = some (dsOf l, kds (dsOf l) (kAll l)) := by
  unfold sIt
  rw [ev_lst h hl]
theorem it_lstP {P : D → Prop} (ha : EvT sa ρ (fun d k => PL_ P n d ∧ k = none)) : ∃ ds, sIt sa ρ = some (ds, none) ∧ (∀ x ∈ ds, P x) ∧ ds.length ≤ n := by
  obtain ⟨d, k, e, ⟨ds, rfl, h1, h2⟩, rfl⟩ := ha
  exact ⟨ds, by unfold sIt; rw [e], h1, h2⟩
theorem et_lcP {it : SI} {vs : List Nat} {g : SG} {tt : ST} {te : SE} {ds : List D} {k : Kd} {Pd : D → Prop} (h1 : it ρ = some (ds, k)) (hn : ds.length ≤ n) (hl : n ≤ 16777216) (H : ∀ d ∈ ds, ∃ ρ1, g d (kOr k) (wipeD ρ vs) = some ρ1 ∧ (TvT tt ρ1 false ∨ (TvT tt ρ1 true ∧ EvT te ρ1 (fun y k' => (y.imm = true ∨ k' = none) ∧ Pd y)))) : EvT (sLc it vs g tt te) ρ (fun d _ => PL_ Pd n d) :=
  (et_lc h1 (by omega) H).mono fun _ _ ⟨ys, e, h, l⟩ => ⟨ys, e, h, by omega⟩
theorem et_S {P : Nat} (h : EvT s ρ (IsS P)) : EvT s ρ (fun y k' => (y.imm = true ∨ k' = none) ∧ PS_ P y) := h.mono fun _ _ ⟨x, e, hx⟩ => ⟨.inl (by rw [e]; rfl), x, e, hx⟩
theorem wRet1 {Φ : Out → Prop} {d : D} (h : W Φ (.rt d ρ)) : W Φ (sRet (sX (sC d)) ρ) := by
  refine wRet rfl (.inr rfl) h
end
end DL
end DLsec14
set_option maxRecDepth 100000
noncomputable section DLsec15
/-! DL15: expressions whose parts write: two in a row, arguments. -/
namespace DL
open PySem PySem.Spec PyProof.Rows L2
/-- what stands still while the next part is reckoned: what stood still, the values in hand, all that is never written -/
def pinH (P H : Hp) (F : List Addr) : Hp := fun a => if a ∈ F then H a else (match H a with
  | some (.lst _) => P a
  | some (.dK _) => P a
  | some (.dT _) => P a
  | none => P a
  | x => x)
section
variable {K : PySem.W.Frag} {P H H2 : Hp} {F : List Addr}
theorem pin_same (s : Same P H) : Same (pinH P H F) H := fun a o e => by
  unfold pinH at e
  split at e
  · exact e
  · split at e
    · exact s a o e
    · exact s a o e
    · exact s a o e
    · exact s a o e
    · exact e
theorem pin_le (s : Same P H) (hF : ∀ a ∈ F, P a = none) : Same P (pinH P H F) := fun a o e => by
  unfold pinH
  split
  · rename_i h
    rw [hF a h] at e; cases e
  · split
    · exact e
    · exact e
    · exact e
    · exact e
    · exact s a o e
theorem pin_kp (s : Same (pinH P H F) H2) : Kp H H2 := by
  refine ⟨fun a o e hm => s a _ ?_⟩
  unfold pinH
  split
  · exact e
  · rw [e]
    cases o <;> first | rfl | exact absurd trivial hm
theorem pin_rep {o : Bool} {d : D} {v : V} (r : Rep K H o d v F) (s : Same (pinH P H F) H2) : Rep K H2 o d v F :=
  Rep.kp (pin_kp s) d v F r fun a ha => by
    obtain ⟨u, e, _⟩ := Rep.tr d v F r a ha
    rw [e]
    exact s a u (by unfold pinH; rw [if_pos ha]; exact e)
theorem pin_in {a : Addr} {u : HO} (ha : a ∈ F) (e : H a = some u) : pinH P H F a ≠ none := by
  unfold pinH
  rw [if_pos ha, e]
  exact fun h => by cases h
theorem EnvOk.pin {C : Ct} {ρ : DEnv} {σ : L2.St} {Fs : Nat → List Addr} (E : EnvOk K C H ρ σ Fs) (hF : ∀ a ∈ F, ∀ i e n, Has ρ i e n → a ∉ Fs i) : EnvOk K ⟨pinH C.P H F, C.pin⟩ H ρ σ Fs := by
  refine ⟨E.len, E.rep, fun i d m h o => ⟨(E.nd i d m h o).1, fun a ha => ?_⟩, E.dis, pin_same E.prot, E.arg, E.non⟩
  show pinH C.P H F a = none
  unfold pinH
  rw [if_neg fun z => hF a z i d m h ha]
  obtain ⟨u, e, mu⟩ := E.tr h ha
  rw [e]
  cases u <;> first | exact mu.elim | exact (E.nd i d m h o).2 a ha
end
section
variable {X : Cx} {C : Ct} {ρ ρ1 : DEnv} {σ : L2.St} {H H1 H2 : Hp} {Fs Fs1 Fs2 : Nat → List Addr} {a b e : Expr} {es : List Expr} {sx sb : SX} {W : WX} {pos p : Pos} {K : PySem.W.Frag}
theorem RepV.less {P' : Hp} {k : Kd} {d : D} {v : V} {F : List Addr} (r : RepV K ⟨P', C.pin⟩ ρ Fs H k d v F) (s : Same C.P P') : RepV K C ρ Fs H k d v F := by
  cases k with
  | none => exact ⟨r.1, r.2.1, fun a ha => ⟨s.free (r.2.2 a ha).1, (r.2.2 a ha).2⟩⟩
  | some R => exact r
/-- a value in hand outlasts the next part -/
theorem RepV.keep {d : D} {v : V} {F : List Addr} (r : RepV K C ρ1 Fs1 H1 none d v F) {ρ2 : DEnv} (E2 : EnvOk K ⟨pinH C.P H1 F, C.pin⟩ H2 ρ2 σ Fs2) (sh : Shr ρ1 Fs1 ρ2 Fs2) : RepV K C ρ2 Fs2 H2 none d v F := by
  obtain ⟨r1, r2, r3⟩ := r
  refine ⟨pin_rep r1 E2.prot, r2, fun a ha => ⟨(r3 a ha).1, fun i e n h hm => ?_⟩⟩
  obtain ⟨u, eu, _⟩ := Rep.tr d v F r1 a ha
  cases n with
  | shr =>
    obtain ⟨h1, e1⟩ := sh i e h
    rw [e1] at hm
    exact (r3 a ha).2 i e _ h1 hm
  | own => exact pin_in ha eu ((E2.nd i e _ h rfl).2 a hm)
  | arg => exact pin_in ha eu ((E2.nd i e _ h rfl).2 a hm)
/-- what is nobody's, or holds nothing that may be written, counts as nobody's -/
theorem RepV.norm {k : Kd} {d : D} {v : V} {F : List Addr} (r : RepV K C ρ Fs H k d v F) (h : d.imm = true ∨ k = none) : ∃ G, RepV K C ρ Fs H none d v G := by
  rcases h with h | h
  · exact ⟨[], RepV.of_im h r.rep none⟩
  · subst h
    exact ⟨F, r⟩
/-- what two parts come to -/
inductive PO where
  | ok (x : D) (kx : Kd) (y : D) (ky : Kd) (ρ : DEnv) | ex (e : Xn) (ρ : DEnv) | bad
/-- the first of two parts, the second of which may write -/
structure PF (X : Cx) (a : Expr) (f : SX → DEnv → PO) : Prop where
  run : ∀ {b : Expr} {sb : SX}, PX X b sb → ∀ (C : Ct) (W : WX) (ρ : DEnv) (σ : L2.St) (H : Hp) (Fs : Nat → List Addr) (R : V → V → Hp → Prop), Takes X W → EnvOk X.K C H ρ σ Fs → (match f sb ρ with
    | .ok x kx y ky ρ2 => ∀ v u H2 F G Fs2, EnvOk X.K C H2 ρ2 σ Fs2 → Shr ρ Fs ρ2 Fs2 → RepV X.K C ρ2 Fs2 H2 kx x v F → RepV X.K C ρ2 Fs2 H2 ky y u G → R v u H2
    | .ex z ρ' => ∀ H' Fs' cls dd, EnvOk X.K C H' ρ' σ Fs' → XRep X.K H' z cls dd → W cls dd σ H'
    | .bad => False) → WE X a σ H fun v H1 => WE X b σ H1 fun u H2 => R v u H2
/-- any, whose value is nobody's -/
def fX (sa sb : SX) : DEnv → PO := fun ρ => match sa ρ with
  | .ok x kx ρ1 => if okP (x.imm = true ∨ kx = none) = true then (match sb ρ1 with
    | .ok y ky ρ2 => .ok x none y ky ρ2
    | .ex z ρ2 => .ex z ρ2
    | .bad => .bad) else .bad
  | .ex z ρ1 => .ex z ρ1
  | .bad => .bad
theorem pfX (ha : PX X a sx) : PF X a (fX sx) := by
  refine ⟨fun {b sb} hb C W ρ σ H Fs R tk E h => ha.run C W ρ σ H Fs _ tk E ?_⟩
  unfold fX at h
  cases h1 : sx ρ with
  | bad => rw [h1] at h; exact h.elim
  | ex z ρ1 => rw [h1] at h; exact h
  | ok x kx ρ1 =>
    rw [h1] at h
    intro v H1 F Fs1 E1 sh1 r1
    by_cases hk : okP (x.imm = true ∨ kx = none) = true
    · simp only [hk, if_true] at h
      obtain ⟨G, r2⟩ := r1.norm (okP_iff.mp hk)
      have Ep := E1.pin (F := G) fun a ha i e n hh => (r2.2.2 a ha).2 i e n hh
      refine hb.run ⟨pinH C.P H1 G, C.pin⟩ W ρ1 σ H1 Fs1 _ tk Ep ?_
      have le : Same C.P (pinH C.P H1 G) := pin_le E1.prot fun a ha => (r2.2.2 a ha).1
      cases h2 : sb ρ1 with
      | bad => rw [h2] at h; exact h.elim
      | ex z ρ2 => rw [h2] at h; exact fun H' Fs' cls dd E' xr => h H' Fs' cls dd (E'.less le) xr
      | ok y ky ρ2 =>
        rw [h2] at h
        exact fun u H2 G2 Fs2 E2 sh2 ru => h v u H2 G G2 Fs2 (E2.less le) (sh1.trans sh2) (r2.keep E2 sh2) (ru.less le)
    · simp only [hk] at h
      exact h.elim
/-- a name: its slot is read behind the second part (the same object) -/
def fV (i : Nat) (sb : SX) : DEnv → PO := fun ρ => match ρ[i]? with
  | some (some _) => (match sb ρ with
    | .ok y ky ρ2 => (match ρ2[i]? with
      | some (some (x, _)) => .ok x (kd x (some [i])) y ky ρ2
      | _ => .bad)
    | .ex z ρ2 => .ex z ρ2
    | .bad => .bad)
  | _ => .bad
theorem RepV.kd {k : Kd} {d : D} {v : V} {F : List Addr} (r : RepV K C ρ Fs H k d v F) : ∃ G, RepV K C ρ Fs H (DL.kd d k) d v G := by
  unfold DL.kd
  by_cases i : d.imm = true
  · rw [if_pos i]
    exact ⟨[], RepV.of_im i r.rep none⟩
  · rw [if_neg i]
    exact ⟨F, r⟩
theorem EnvOk.var (E : EnvOk K C H ρ σ Fs) {i : Nat} {d : D} {m : Md} (h : Has ρ i d m) {v : V} (hv : σ[i]? = some (some v)) : ∃ G, RepV K C ρ Fs H (DL.kd d (some [i])) d v G := by
  obtain ⟨v', hv', r⟩ := E.rep i d m h
  rw [hv] at hv'
  cases hv'
  refine RepV.kd (k := some [i]) (F := Fs i) ⟨?_, fun a ha j e n hj hn hne hm => E.dis j i e n d m (fun z => hne (by simp [z])) hj hn h a hm ha⟩
  cases hm : m.o with
  | true => rw [hm] at r; exact Rep.weak d v _ r
  | false => rw [hm] at r; exact r
theorem pfV (i : Nat) {x : Str} (hN : X.N[i]? = some x := by rfl) (hv : Vis X.env.scope x := by first | exact Or.inl rfl | exact Or.inr (Or.inl rfl) | exact Or.inr (Or.inr rfl)) (hd : (x == ("__debug__" : Str)) = false := by decide)
    (hcd : (x == ("__classdict__" : Str)) = false := by decide) : PF X (.Name x pos) (fV i) := by
  refine ⟨fun {b sb} hb C W ρ σ H Fs R tk E h => ?_⟩
  unfold fV at h
  cases hp : ρ[i]? with
  | none => rw [hp] at h; exact h.elim
  | some p0 =>
    cases p0 with
    | none => rw [hp] at h; exact h.elim
    | some p =>
      rw [hp] at h
      obtain ⟨d, m⟩ := p
      obtain ⟨v, hv', _⟩ := E.rep i d m hp
      refine WE.of (pe_var hN hv hd hcd) ⟨v, hv', hb.run C W ρ σ H Fs _ tk E ?_⟩
      cases h2 : sb ρ with
      | bad => simp only [h2] at h
      | ex z ρ2 => simp only [h2] at h; exact h
      | ok y ky ρ2 =>
        intro u H2 G Fs2 E2 sh ru
        cases hq : ρ2[i]? with
        | none => simp only [h2, hq] at h
        | some q =>
          cases q with
          | none => simp only [h2, hq] at h
          | some q =>
            obtain ⟨x', m'⟩ := q
            simp only [h2, hq] at h
            obtain ⟨G1, r1⟩ := E2.var hq hv'
            exact h v u H2 G1 G Fs2 E2 sh r1 ru
/-! ### operators -/
def sOpX (f : D → D → Option D) (p : DEnv → PO) : SX := fun ρ => match p ρ with
  | .ok x _ y _ ρ2 => (match f x y with
    | some z => .ok z none ρ2
    | none => .bad)
  | .ex z ρ2 => .ex z ρ2
  | .bad => .bad
variable {fa : SX → DEnv → PO}
theorem op_go {r : R2} {f : D → D → Option D} (hf : ∀ x y z, f x y = some z → z.imm = true ∧ ∀ (H : Hp) (v u : V) (F G : List Addr) (Q : VK), Rep X.K H false x v F → Rep X.K H false y u G → (∀ w H', Same H H' → Rep X.K H' true z w [] → Q w H') → r v u H Q)
    (ha : PF X a fa) (hb : PX X b sb) {Q : VK} (tk : Takes X W) (E : EnvOk X.K C H ρ σ Fs) (h : match sOpX f (fa sb) ρ with
    | .ok d k ρ' => ∀ v H' F Fs', EnvOk X.K C H' ρ' σ Fs' → Shr ρ Fs ρ' Fs' → RepV X.K C ρ' Fs' H' k d v F → Q v H'
    | .ex x ρ' => ∀ H' Fs' cls dd, EnvOk X.K C H' ρ' σ Fs' → XRep X.K H' x cls dd → W cls dd σ H'
    | .bad => False) : WE X a σ H fun v H1 => WE X b σ H1 fun u H2 => r v u H2 Q := by
  refine ha.run hb C W ρ σ H Fs _ tk E ?_
  unfold sOpX at h
  cases h1 : fa sb ρ with
  | bad => rw [h1] at h; exact h.elim
  | ex z ρ2 => rw [h1] at h; exact h
  | ok x kx y ky ρ2 =>
    rw [h1] at h
    intro v u H2 F G Fs2 E2 sh r1 r2
    simp only at h
    cases h3 : f x y with
    | none => rw [h3] at h; exact h.elim
    | some z =>
      rw [h3] at h
      obtain ⟨im, go⟩ := hf x y z h3
      exact go H2 v u F G Q r1.rep r2.rep fun w H3 s3 rw => h w H3 [] Fs2 (E2.same s3) sh ⟨rw, List.nodup_nil, fun a ha => by cases ha⟩
theorem xOp {op : Operator} {f : D → D → Option D} (o : OpD X (binaryOp op) f) (ha : PF X a fa) (hb : PX X b sb) : PX X (.BinOp a op b pos) (sOpX f (fa sb)) := by
  obtain ⟨r, hr, hf⟩ := o
  exact ⟨fun C W ρ σ H Fs Q tk E h => WE.of (pe_op hr (we X a) (we X b)) (op_go hf ha hb tk E h)⟩
theorem xCmp {op : CmpOp} {f : D → D → Option D} (o : OpD X (compareOp op) f) (ha : PF X a fa) (hb : PX X b sb) (hm : behindInMarks op b = false := by first | exact nomark _ (by decide) (by decide) | rfl) : PX X (.Compare a [op] [b] pos) (sOpX f (fa sb)) := by
  obtain ⟨r, hr, hf⟩ := o
  exact ⟨fun C W ρ σ H Fs Q tk E h => WE.of (pe_cmpR hr (we X a) (we X b) hm) (op_go hf ha hb tk E h)⟩
end
end DL
end DLsec15
set_option maxRecDepth 100000
noncomputable section DLsec16
/-! DL16: arguments whose parts write, displays, built-ins, calls that write their arguments. -/
namespace DL
open PySem PySem.Spec PyProof.Rows L2
section
variable {X : Cx} {C : Ct} {ρ ρ1 ρ2 : DEnv} {σ : L2.St} {H H1 H2 : Hp} {Fs Fs1 Fs2 : Nat → List Addr} {a b e : Expr} {es : List Expr} {sx sb : SX} {s : SE} {t : SA} {W : WX} {pos p : Pos} {K : PySem.W.Frag}
/-! ### parts of values in hand -/
theorem RepV.sub {k : Kd} {d d' : D} {v : V} {F : List Addr} (r : RepV K C ρ Fs H k d v F) {w : V} {G : List Addr} (h1 : k = none → Rep K H true d' w G) (h2 : k ≠ none → Rep K H false d' w G) (hG : G.Sublist F) : RepV K C ρ Fs H k d' w G := by
  cases k with
  | none => exact ⟨h1 rfl, hG.nodup r.2.1, fun a ha => r.2.2 a (hG.subset ha)⟩
  | some R => exact ⟨h2 (fun z => by cases z), fun a ha => r.2 a (hG.subset ha)⟩
theorem atI_mem {α : Type} {ds : List α} {i : Int} {d : α} (h : atI ds i = some d) : ∃ j : Nat, ds[j]? = some d ∧ ∀ {β : Type} (vs : List β), vs.length = ds.length → atI vs i = vs[j]? := by
  unfold atI at h
  cases e : ixN ds.length i with
  | none => rw [e] at h; cases h
  | some j =>
    rw [e] at h
    exact ⟨j, h, fun vs hl => by unfold atI; rw [hl, e]; rfl⟩
def kO : Kd → Bool
  | none => true
  | some _ => false
def ixX : D → Kd → D → Option (D × Kd)
  | .lst ds, k, .int i => (match atI ds i with | some d => some (d, kd d k) | none => none)
  | .tup ds, k, .int i => (match atI ds i with | some d => some (d, kd d k) | none => none)
  | .rol ds, k, .int i => (match atI ds i with | some d => some (d, kd d k) | none => none)
  | .str z, _, .int i => if okP (z.length ≤ sizeLine) = true then (match atI z.cps.toList i with
    | some c => some (.str ⟨#[c]⟩, none)
    | none => none) else none
  | _, _, _ => none
def sIxX (p : DEnv → PO) : SX := fun ρ => match p ρ with
  | .ok x kx y _ ρ2 => (match ixX x kx y with
    | some (z, k) => .ok z k ρ2
    | none => .bad)
  | .ex z ρ2 => .ex z ρ2
  | .bad => .bad
theorem reps_at {o : Bool} {ds : List D} {vs : List V} {F : List Addr} {i : Int} {d : D} (r : Reps K H o ds vs F) (h : atI ds i = some d) : ∃ w G, atI vs i = some w ∧ Rep K H o d w G ∧ G.Sublist F := by
  obtain ⟨j, hj, hv⟩ := atI_mem h
  obtain ⟨w, G, h1, h2, h3⟩ := r.get hj
  exact ⟨w, G, by rw [hv vs (Reps.len r)]; exact h1, h2, h3⟩
variable {fa : SX → DEnv → PO}
theorem xIx (ha : PF X a fa) (hb : PX X b sb) (hp : PlainIx b := by exact fun _ _ => rfl) : PX X (.Subscript a b pos) (sIxX (fa sb)) := by
  refine ⟨fun C W ρ σ H Fs Q tk E h => WE.of (pe_ix ix_seq (we X a) (we X b) hp) (ha.run hb C W ρ σ H Fs _ tk E ?_)⟩
  unfold sIxX at h
  cases h1 : fa sb ρ with
  | bad => rw [h1] at h; exact h.elim
  | ex z ρ2 => rw [h1] at h; exact h
  | ok x kx y ky ρ2 =>
    rw [h1] at h
    intro v u H2 F G Fs2 E2 sh r1 r2
    cases h3 : ixX x kx y with
    | none => simp only [h3] at h
    | some q =>
      obtain ⟨z, k⟩ := q
      simp only [h3] at h
      have hy : ∃ i, y = .int i := by
        cases y <;> first | exact ⟨_, rfl⟩ | (cases x <;> cases h3)
      obtain ⟨i, rfl⟩ := hy
      have item : ∀ {ds : List D} {d : D} {vs : List V} {o : Bool} {F' : List Addr}, atI ds i = some d → Reps X.K H2 (kO kx) ds vs F' → F'.Sublist F → ∃ w G, atI vs i = some w ∧ RepV X.K C ρ2 Fs2 H2 (DL.kd d kx) d w G := fun {ds d vs o F'} e hr hF => by
        obtain ⟨w, G2, ew, rw, sub⟩ := reps_at hr e
        have r0 : RepV X.K C ρ2 Fs2 H2 kx d w G2 := by
          refine r1.sub (fun z => ?_) (fun z => ?_) (sub.trans hF)
          · subst z; exact rw
          · cases kx with
            | none => exact absurd rfl z
            | some R => exact rw
        obtain ⟨G3, r3⟩ := r0.kd
        exact ⟨w, G3, ew, r3⟩
      have r1o : Rep X.K H2 (kO kx) x v F := by
        cases kx with
        | none => exact r1.1
        | some R => exact r1.1
      cases x with
      | lst ds =>
        have h3 : (match atI ds i with | some d => some (d, DL.kd d kx) | none => none) = some (z, k) := h3
        cases e : atI ds i with
        | none => rw [e] at h3; cases h3
        | some d =>
          rw [e] at h3
          cases h3
          obtain ⟨p, vs, G', rfl, hr, hl, rfl⟩ := r1o
          obtain ⟨w, G3, ew, r3⟩ := item (o := true) e hr (List.sublist_cons_self _ _)
          exact .inl ⟨p, vs, i, w, rfl, r2.rep.1, SqL.of hl, ew, h w H2 G3 Fs2 E2 sh r3⟩
      | tup ds =>
        have h3 : (match atI ds i with | some d => some (d, DL.kd d kx) | none => none) = some (z, k) := h3
        cases e : atI ds i with
        | none => rw [e] at h3; cases h3
        | some d =>
          rw [e] at h3
          cases h3
          obtain ⟨p, vs, rfl, hl, hr⟩ := r1o
          obtain ⟨w, G3, ew, r3⟩ := item (o := true) e hr (List.Sublist.refl _)
          exact .inr (.inl ⟨p, vs, i, w, rfl, r2.rep.1, SqT.of hl, ew, h w H2 G3 Fs2 E2 sh r3⟩)
      | rol ds =>
        have h3 : (match atI ds i with | some d => some (d, DL.kd d kx) | none => none) = some (z, k) := h3
        cases e : atI ds i with
        | none => rw [e] at h3; cases h3
        | some d =>
          rw [e] at h3
          cases h3
          obtain ⟨p, vs, rfl, hl, hr⟩ := r1o
          obtain ⟨w, G3, ew, r3⟩ := item (o := true) e hr (List.Sublist.refl _)
          exact .inl ⟨p, vs, i, w, rfl, r2.rep.1, hl.sq, ew, h w H2 G3 Fs2 E2 sh r3⟩
      | str zz =>
        have h3 : (if okP (zz.length ≤ sizeLine) = true then (match atI zz.cps.toList i with | some c => some (D.str ⟨#[c]⟩, none) | none => none) else none) = some (z, k) := h3
        by_cases hz0 : okP (zz.length ≤ sizeLine) = true
        · rw [if_pos hz0] at h3
          cases e : atI zz.cps.toList i with
          | none => rw [e] at h3; cases h3
          | some c =>
            rw [e] at h3
            cases h3
            exact .inr (.inr ⟨zz, i, c, r1.rep.1, r2.rep.1, okP_iff.mp hz0, e, h _ H2 [] Fs2 E2 sh ⟨⟨rfl, rfl⟩, List.nodup_nil, fun a ha => by cases ha⟩⟩)
        · rw [if_neg hz0] at h3
          cases h3
      | _ => cases h3
/-! ### arguments -/
inductive XA where
  | ok (l : List (D × Kd)) (ρ : DEnv) | ex (x : Xn) (ρ : DEnv) | bad
abbrev SXA := DEnv → XA
def RepVs (K : PySem.W.Frag) (C : Ct) (ρ : DEnv) (Fs : Nat → List Addr) (H : Hp) : List (D × Kd) → List V → List (List Addr) → Prop
  | [], vs, Gs => vs = [] ∧ Gs = []
  | (d, k) :: r, vs, Gs => ∃ v ws F Ls, vs = v :: ws ∧ Gs = F :: Ls ∧ RepV K C ρ Fs H k d v F ∧ RepVs K C ρ Fs H r ws Ls ∧ (k = none → ∀ (i : Nat) (q : D × Kd) (G : List Addr), r[i]? = some q → q.2 = none → Ls[i]? = some G → ∀ a ∈ F, a ∉ G)
theorem RepVs.less {P' : Hp} (s : Same C.P P') : ∀ {l : List (D × Kd)} {vs : List V} {Gs : List (List Addr)}, RepVs K ⟨P', C.pin⟩ ρ Fs H l vs Gs → RepVs K C ρ Fs H l vs Gs
  | [], _, _, h => h
  | (d, k) :: r, vs, Gs, h => by
    obtain ⟨v, ws, F, Ls, h1, h2, h3, h4, h5⟩ := h
    exact ⟨v, ws, F, Ls, h1, h2, h3.less s, RepVs.less s h4, h5⟩
theorem RepVs.tr : ∀ {l : List (D × Kd)} {vs : List V} {Gs : List (List Addr)}, RepVs K C ρ Fs H l vs Gs → ∀ (i : Nat) (q : D × Kd), l[i]? = some q → ∃ v G, vs[i]? = some v ∧ Gs[i]? = some G ∧ RepV K C ρ Fs H q.2 q.1 v G
  | [], _, _, _, i, q, e => by simp at e
  | (d, k) :: r, vs, Gs, h, i, q, e => by
    obtain ⟨v, ws, F, Ls, rfl, rfl, h3, h4, _⟩ := h
    cases i with
    | zero =>
      have e1 : (d, k) = q := by simpa using e
      subst e1
      exact ⟨v, F, rfl, rfl, h3⟩
    | succ i =>
      obtain ⟨w, G, q1, q2, q3⟩ := RepVs.tr h4 i q (by simpa using e)
      exact ⟨w, G, by simpa using q1, by simpa using q2, q3⟩
theorem RepVs.lens : ∀ {l : List (D × Kd)} {vs : List V} {Gs : List (List Addr)}, RepVs K C ρ Fs H l vs Gs → vs.length = l.length ∧ Gs.length = l.length
  | [], _, _, h => by rw [h.1, h.2]; exact ⟨rfl, rfl⟩
  | (d, k) :: r, vs, Gs, h => by
    obtain ⟨v, ws, F, Ls, rfl, rfl, h3, h4, _⟩ := h
    have := RepVs.lens h4
    simp only [List.length_cons]
    omega
structure PXA (X : Cx) (es : List Expr) (t : SXA) : Prop where
  run : ∀ (C : Ct) (W : WX) (ρ : DEnv) (σ : L2.St) (H : Hp) (Fs : Nat → List Addr) (Q : List V → Hp → Prop), Takes X W → EnvOk X.K C H ρ σ Fs → (match t ρ with
    | .ok l ρ' => ∀ vs H' Gs Fs', EnvOk X.K C H' ρ' σ Fs' → Shr ρ Fs ρ' Fs' → RepVs X.K C ρ' Fs' H' l vs Gs → Q vs H'
    | .ex x ρ' => ∀ H' Fs' cls dd, EnvOk X.K C H' ρ' σ Fs' → XRep X.K H' x cls dd → W cls dd σ H'
    | .bad => False) → WA X es σ H Q
/-- arguments none of which writes -/
def sA (t : SA) : SXA := fun ρ => match t ρ with
  | some l => .ok l ρ
  | none => .bad
theorem RepRs.inV {H0 : Hp} (E : EnvOk K C H0 ρ σ Fs) : ∀ {l : List (D × Kd)} {vs : List V} {Gs : List (List Addr)}, RepRs K H0 H Fs l vs Gs → RepVs K C ρ Fs H l vs Gs
  | [], _, _, h => h
  | (d, k) :: r, vs, Gs, h => by
    obtain ⟨v, ws, F, Ls, h1, h2, h3, h4, h5, h6⟩ := h
    exact ⟨v, ws, F, Ls, h1, h2, h3.inV E, RepRs.inV E h4, fun hk i q G _ _ hG => h5 hk G (List.mem_of_getElem? hG)⟩
theorem PPA.x (h : PPA X es t) : PXA X es (sA t) := by
  refine ⟨fun C W ρ σ H Fs Q tk E hq => ?_⟩
  unfold sA at hq
  cases hs : t ρ with
  | none => rw [hs] at hq; exact hq.elim
  | some l =>
    rw [hs] at hq
    exact h.run C ρ σ H Fs l Q E hs fun vs H' Gs s1 r => hq vs H' Gs Fs (E.same s1) Shr.refl (r.inV E)
/-- the next argument writes, or one behind it does -/
def sXC (s : SX) (t : SXA) : SXA := fun ρ => match s ρ with
  | .ok x kx ρ1 => if okP (x.imm = true ∨ kx = none) = true then (match t ρ1 with
    | .ok l ρ2 => .ok ((x, none) :: l) ρ2
    | .ex z ρ2 => .ex z ρ2
    | .bad => .bad) else .bad
  | .ex z ρ1 => .ex z ρ1
  | .bad => .bad
variable {tx : SXA}
theorem xaC (ha : PX X e sx) (hr : PXA X es tx) (hs : starEach (e :: es) X.env = (false, eval e X.env) :: starEach es X.env := by rfl) : PXA X (e :: es) (sXC sx tx) := by
  refine ⟨fun C W ρ σ H Fs Q tk E h => WA.of (pa_cons (we X e) (wa X es) hs) (ha.run C W ρ σ H Fs _ tk E ?_)⟩
  unfold sXC at h
  cases h1 : sx ρ with
  | bad => rw [h1] at h; exact h.elim
  | ex z ρ1 => rw [h1] at h; exact h
  | ok x kx ρ1 =>
    rw [h1] at h
    intro v H1 F Fs1 E1 sh1 r1
    by_cases hk : okP (x.imm = true ∨ kx = none) = true
    · simp only [hk, if_true] at h
      obtain ⟨G, r2⟩ := r1.norm (okP_iff.mp hk)
      have Ep := E1.pin (F := G) fun a ha i e n hh => (r2.2.2 a ha).2 i e n hh
      refine hr.run ⟨pinH C.P H1 G, C.pin⟩ W ρ1 σ H1 Fs1 _ tk Ep ?_
      have le : Same C.P (pinH C.P H1 G) := pin_le E1.prot fun a ha => (r2.2.2 a ha).1
      cases h2 : tx ρ1 with
      | bad => rw [h2] at h; exact h.elim
      | ex z ρ2 => rw [h2] at h; exact fun H' Fs' cls dd E' xr => h H' Fs' cls dd (E'.less le) xr
      | ok l ρ2 =>
        rw [h2] at h
        intro vs H2 Gs Fs2 E2 sh2 rs
        refine h (v :: vs) H2 (G :: Gs) Fs2 (E2.less le) (sh1.trans sh2) ⟨v, vs, G, Gs, rfl, rfl, r2.keep E2 sh2, rs.less le, fun _ i q G2 h5 h6 h7 a ha hg => ?_⟩
        obtain ⟨w, G3, _, q2, q3⟩ := rs.tr i q h5
        rw [h7] at q2
        cases q2
        rw [h6] at q3
        obtain ⟨u, eu, _⟩ := Rep.tr x v G r2.1 a ha
        exact pin_in ha eu (q3.2.2 a hg).1
    · simp only [hk] at h
      exact h.elim
/-- a name, read behind the arguments that follow (the same object) -/
def sXV (i : Nat) (t : SXA) : SXA := fun ρ => match ρ[i]? with
  | some (some _) => (match t ρ with
    | .ok l ρ2 => (match ρ2[i]? with
      | some (some (x, _)) => .ok ((x, kd x (some [i])) :: l) ρ2
      | _ => .bad)
    | .ex z ρ2 => .ex z ρ2
    | .bad => .bad)
  | _ => .bad
theorem xaV (i : Nat) {x : Str} (hr : PXA X es tx) (hN : X.N[i]? = some x := by rfl) (hv : Vis X.env.scope x := by first | exact Or.inl rfl | exact Or.inr (Or.inl rfl) | exact Or.inr (Or.inr rfl)) (hd : (x == ("__debug__" : Str)) = false := by decide)
    (hcd : (x == ("__classdict__" : Str)) = false := by decide) (hs : starEach (.Name x pos :: es) X.env = (false, eval (.Name x pos) X.env) :: starEach es X.env := by rfl) : PXA X (.Name x pos :: es) (sXV i tx) := by
  refine ⟨fun C W ρ σ H Fs Q tk E h => ?_⟩
  unfold sXV at h
  cases hp : ρ[i]? with
  | none => rw [hp] at h; exact h.elim
  | some p0 =>
    cases p0 with
    | none => rw [hp] at h; exact h.elim
    | some p =>
      rw [hp] at h
      obtain ⟨d, m⟩ := p
      obtain ⟨v, hv', _⟩ := E.rep i d m hp
      refine WA.of (pa_cons (we X _) (wa X es) hs) (WE.of (pe_var hN hv hd hcd) ⟨v, hv', hr.run C W ρ σ H Fs _ tk E ?_⟩)
      cases h2 : tx ρ with
      | bad => simp only [h2] at h
      | ex z ρ2 => simp only [h2] at h; exact h
      | ok l ρ2 =>
        intro vs H2 Gs Fs2 E2 sh rs
        cases hq : ρ2[i]? with
        | none => simp only [h2, hq] at h
        | some q =>
          cases q with
          | none => simp only [h2, hq] at h
          | some q =>
            obtain ⟨x', m'⟩ := q
            simp only [h2, hq] at h
            obtain ⟨v', hv2, r⟩ := E2.rep i x' m' hq
            rw [hv'] at hv2
            cases hv2
            have r0 : RepV X.K C ρ2 Fs2 H2 (some [i]) x' v (Fs2 i) := by
              refine ⟨?_, fun a ha j e n hj hn hne hm => E2.dis j i e n x' m' (fun z => hne (by simp [z])) hj hn hq a hm ha⟩
              cases hm : m'.o with
              | true => rw [hm] at r; exact Rep.weak x' v _ r
              | false => rw [hm] at r; exact r
            obtain ⟨G, r1⟩ := RepV.kd r0
            by_cases im : x'.imm = true
            · have hk : DL.kd x' (some [i]) = none := by unfold DL.kd; rw [if_pos im]
              exact h (v :: vs) H2 ([] :: Gs) Fs2 E2 sh ⟨v, vs, [], Gs, rfl, rfl, RepV.of_im im r0.rep _, rs, fun _ _ _ _ _ _ _ a ha => by cases ha⟩
            · have hk : DL.kd x' (some [i]) = some [i] := by unfold DL.kd; rw [if_neg im]
              exact h (v :: vs) H2 (G :: Gs) Fs2 E2 sh ⟨v, vs, G, Gs, rfl, rfl, r1, rs, fun z => by rw [hk] at z; cases z⟩
end
end DL
end DLsec16
set_option maxRecDepth 100000
noncomputable section DLsec17
/-! DL17: displays, built-ins, calls, with parts that write. -/
namespace DL
open PySem PySem.Spec PyProof.Rows L2
section
variable {X : Cx} {C : Ct} {ρ ρ1 ρ2 : DEnv} {σ : L2.St} {H H1 H2 : Hp} {Fs Fs1 Fs2 : Nat → List Addr} {a b e : Expr} {es : List Expr} {sx sb : SX} {s : SE} {t : SA} {tx : SXA} {W : WX} {pos p : Pos} {K : PySem.W.Frag}
def RepsV (K : PySem.W.Frag) (C : Ct) (ρ : DEnv) (Fs : Nat → List Addr) (H : Hp) (k : Kd) (ds : List D) (vs : List V) (F : List Addr) : Prop := match k with
  | none => Reps K H true ds vs F ∧ F.Nodup ∧ ∀ a ∈ F, C.P a = none ∧ ∀ i e n, Has ρ i e n → a ∉ Fs i
  | some R => Reps K H false ds vs F ∧ ∀ a ∈ F, ∀ i e n, Has ρ i e n → n.o = true → i ∉ R → a ∉ Fs i
theorem RepsV.rep {k : Kd} {ds : List D} {vs : List V} {F : List Addr} (r : RepsV K C ρ Fs H k ds vs F) : Reps K H false ds vs F := by
  cases k with
  | none => exact Reps.weak ds vs F r.1
  | some R => exact r.1
theorem RepsV.up {k : Kd} {ds : List D} {vs : List V} {F : List Addr} (r : RepsV K C ρ Fs H k ds vs F) (R : List Nat) (h : ∀ S, k = some S → ∀ i ∈ S, i ∈ R) : Reps K H false ds vs F ∧ ∀ a ∈ F, ∀ i e n, Has ρ i e n → n.o = true → i ∉ R → a ∉ Fs i := by
  cases k with
  | none => exact ⟨Reps.weak ds vs F r.1, fun a ha i e n hh _ _ => (r.2.2 a ha).2 i e n hh⟩
  | some S => exact ⟨r.1, fun a ha i e n hh hn hR => r.2 a ha i e n hh hn fun z => hR (h S rfl i z)⟩
theorem RepV.up {k : Kd} {d : D} {v : V} {F : List Addr} (r : RepV K C ρ Fs H k d v F) (R : List Nat) (h : ∀ S, k = some S → ∀ i ∈ S, i ∈ R) : Rep K H false d v F ∧ ∀ a ∈ F, ∀ i e n, Has ρ i e n → n.o = true → i ∉ R → a ∉ Fs i := by
  cases k with
  | none => exact ⟨Rep.weak d v F r.1, fun a ha i e n hh _ _ => (r.2.2 a ha).2 i e n hh⟩
  | some S => exact ⟨r.1, fun a ha i e n hh hn hR => r.2 a ha i e n hh hn fun z => hR (h S rfl i z)⟩
theorem kAll_none : ∀ {l : List (D × Kd)}, kAll l = none → ∀ (i : Nat) (q : D × Kd), l[i]? = some q → q.2 = none
  | [], _, i, q, e => by simp at e
  | (d, k) :: r, h, i, q, e => by
    have h : kj k (kAll r) = none := h
    cases k with
    | none =>
      cases i with
      | zero => have e1 : (d, none) = q := by simpa using e
                rw [← e1]
      | succ i =>
        cases hr : kAll r with
        | none => exact kAll_none hr i q (by simpa using e)
        | some R => rw [hr] at h; cases h
    | some R => cases hr : kAll r <;> (rw [hr] at h; cases h)
theorem RepVs.all : ∀ {l : List (D × Kd)} {vs : List V} {Gs : List (List Addr)}, RepVs K C ρ Fs H l vs Gs → RepsV K C ρ Fs H (kAll l) (dsOf l) vs Gs.flatten
  | [], vs, Gs, h => by
    obtain ⟨rfl, rfl⟩ := h
    exact ⟨⟨rfl, rfl⟩, List.nodup_nil, fun a ha => by cases ha⟩
  | (d, k) :: r, vs, Gs, h => by
    obtain ⟨v, ws, F, Ls, rfl, rfl, h3, h4, h5⟩ := h
    have ih := RepVs.all h4
    have mk : ∀ {o : Bool}, Rep K H o d v F → Reps K H o (dsOf r) ws Ls.flatten → Reps K H o (dsOf ((d, k) :: r)) (v :: ws) (F :: Ls).flatten := fun {o} x y => ⟨v, ws, F, Ls.flatten, rfl, rfl, x, y⟩
    show RepsV K C ρ Fs H (kj k (kAll r)) _ _ _
    have both : ∀ R : List Nat, (∀ S, k = some S → ∀ i ∈ S, i ∈ R) → (∀ S, kAll r = some S → ∀ i ∈ S, i ∈ R) → RepsV K C ρ Fs H (some R) (dsOf ((d, k) :: r)) (v :: ws) (F :: Ls).flatten := fun R q1 q2 => by
      obtain ⟨x1, x2⟩ := h3.up R q1
      obtain ⟨y1, y2⟩ := ih.up R q2
      refine ⟨mk x1 y1, fun a ha => ?_⟩
      rcases List.mem_append.mp (show a ∈ F ++ Ls.flatten from ha) with ha | ha
      · exact x2 a ha
      · exact y2 a ha
    cases hk : k with
    | some S =>
      cases hr : kAll r with
      | none => subst hk; exact both S (fun S' e i hi => by cases e; exact hi) (fun S' e => by rw [hr] at e; cases e)
      | some S2 => subst hk; exact both (S ++ S2) (fun S' e i hi => by cases e; exact List.mem_append_left _ hi) (fun S' e i hi => by rw [hr] at e; cases e; exact List.mem_append_right _ hi)
    | none =>
      cases hr : kAll r with
      | some S2 => exact both S2 (fun S' e => by rw [hk] at e; cases e) (fun S' e i hi => by rw [hr] at e; cases e; exact hi)
      | none =>
        subst hk
        rw [hr] at ih
        obtain ⟨y1, y2, y3⟩ := ih
        obtain ⟨x1, x2, x3⟩ := h3
        refine ⟨mk x1 y1, ?_, fun a ha => ?_⟩
        · show (F ++ Ls.flatten).Nodup
          refine List.nodup_append.mpr ⟨x2, y2, fun a ha b hb hab => ?_⟩
          subst hab
          obtain ⟨G, hG, hg⟩ := List.mem_flatten.mp hb
          obtain ⟨i, hi⟩ := List.getElem?_of_mem hG
          have hl := (RepVs.lens h4).2
          have hlt : i < r.length := by rw [← hl]; exact (List.getElem?_eq_some_iff.mp hi).1
          exact h5 rfl i r[i] G (List.getElem?_eq_getElem hlt) (kAll_none hr i _ (List.getElem?_eq_getElem hlt)) hi a ha hg
        · rcases List.mem_append.mp (show a ∈ F ++ Ls.flatten from ha) with ha | ha
          · exact x3 a ha
          · exact y3 a ha
theorem RepsV.kds {k : Kd} {ds : List D} {vs : List V} {F : List Addr} (r : RepsV K C ρ Fs H k ds vs F) : ∃ G, RepsV K C ρ Fs H (DL.kds ds k) ds vs G := by
  unfold DL.kds
  by_cases i : imms ds = true
  · rw [if_pos i]
    exact ⟨[], (Reps.im ds vs F i r.rep).2 true, List.nodup_nil, fun a ha => by cases ha⟩
  · rw [if_neg i]
    exact ⟨F, r⟩
theorem RepsV.newL {k : Kd} {ds : List D} {vs : List V} {F : List Addr} (r : RepsV K C ρ Fs H k ds vs F) (E : EnvOk K C H ρ σ Fs) {p : Addr} (hp : H p = none) : RepV K C ρ Fs (upd H p (.lst vs)) k (.lst ds) (.ref p) (p :: F) := by
  have s := same_new (o := .lst vs) hp
  have hF : p ∉ F := fun hm => by
    obtain ⟨u, e, _⟩ := Reps.tr ds vs F r.rep p hm
    rw [hp] at e; cases e
  have hS : ∀ i e n, Has ρ i e n → p ∉ Fs i := fun i e n h hm => by
    obtain ⟨u, eu, _⟩ := E.tr h hm
    rw [hp] at eu; cases eu
  cases k with
  | none =>
    refine ⟨⟨p, vs, F, rfl, r.1.same s, upd_same, rfl⟩, List.nodup_cons.mpr ⟨hF, r.2.1⟩, fun a ha => ?_⟩
    rcases List.mem_cons.mp ha with rfl | ha
    · exact ⟨E.prot.free hp, hS⟩
    · exact r.2.2 a ha
  | some R =>
    refine ⟨⟨p, vs, F, rfl, r.1.same s, upd_same, rfl⟩, fun a ha => ?_⟩
    rcases List.mem_cons.mp ha with rfl | ha
    · exact fun i e n h _ _ => hS i e n h
    · exact r.2 a ha
theorem RepsV.newT {k : Kd} {ds : List D} {vs : List V} {F : List Addr} (r : RepsV K C ρ Fs H k ds vs F) {p : Addr} (hp : H p = none) : RepV K C ρ Fs (upd H p (.tup vs)) k (.tup ds) (.ref p) F := by
  have s := same_new (o := .tup vs) hp
  cases k with
  | none => exact ⟨⟨p, vs, rfl, upd_same, r.1.same s⟩, r.2⟩
  | some R => exact ⟨⟨p, vs, rfl, upd_same, r.1.same s⟩, r.2⟩
theorem RepsV.len {k : Kd} {ds : List D} {vs : List V} {F : List Addr} (r : RepsV K C ρ Fs H k ds vs F) : vs.length = ds.length := Reps.len r.rep
def sLstX (t : SXA) : SX := fun ρ => match t ρ with
  | .ok l ρ2 => if okP (l.length ≤ sizeLine) = true then .ok (.lst (dsOf l)) (kds (dsOf l) (kAll l)) ρ2 else .bad
  | .ex z ρ2 => .ex z ρ2
  | .bad => .bad
def sTupX (t : SXA) : SX := fun ρ => match t ρ with
  | .ok l ρ2 => if okP (l.length ≤ sizeLine) = true then .ok (.tup (dsOf l)) (kds (dsOf l) (kAll l)) ρ2 else .bad
  | .ex z ρ2 => .ex z ρ2
  | .bad => .bad
theorem xLst (h : PXA X es tx) : PX X (.List es pos) (sLstX tx) := by
  refine ⟨fun C W ρ σ H Fs Q tk E hq => WE.of (pe_lst (wa X es)) (h.run C W ρ σ H Fs _ tk E ?_)⟩
  unfold sLstX at hq
  cases h1 : tx ρ with
  | bad => rw [h1] at hq; exact hq.elim
  | ex z ρ2 => rw [h1] at hq; exact hq
  | ok l ρ2 =>
    rw [h1] at hq
    by_cases hl : okP (l.length ≤ sizeLine) = true
    · simp only [hl, if_true] at hq
      intro vs H2 Gs Fs2 E2 sh rs
      obtain ⟨G, r2⟩ := rs.all.kds
      refine ⟨by rw [r2.len]; unfold dsOf; rw [List.length_map]; exact okP_iff.mp hl, fun p hp => hq _ _ _ Fs2 (E2.same (same_new hp)) sh (r2.newL E2 hp)⟩
    · simp only [hl] at hq
      exact hq.elim
theorem xTup {x1} (h : PXA X es tx) : PX X (.Tuple es x1 pos) (sTupX tx) := by
  refine ⟨fun C W ρ σ H Fs Q tk E hq => WE.of (pe_tup (wa X es)) (h.run C W ρ σ H Fs _ tk E ?_)⟩
  unfold sTupX at hq
  cases h1 : tx ρ with
  | bad => rw [h1] at hq; exact hq.elim
  | ex z ρ2 => rw [h1] at hq; exact hq
  | ok l ρ2 =>
    rw [h1] at hq
    by_cases hl : okP (l.length ≤ sizeLine) = true
    · simp only [hl, if_true] at hq
      intro vs H2 Gs Fs2 E2 sh rs
      obtain ⟨G, r2⟩ := rs.all.kds
      refine ⟨by rw [r2.len]; unfold dsOf; rw [List.length_map]; exact okP_iff.mp hl, fun p hp => hq _ _ _ Fs2 (E2.same (same_new hp)) sh (r2.newT hp)⟩
    · simp only [hl] at hq
      exact hq.elim
/-! ### built-ins -/
def sCallX (g : List D → Option D) (t : SXA) : SX := fun ρ => match t ρ with
  | .ok l ρ2 => (match g (dsOf l) with
    | some z => .ok z none ρ2
    | none => .bad)
  | .ex z ρ2 => .ex z ρ2
  | .bad => .bad
theorem callX_go {r : List V → Hp → VK → Prop} {g : List D → Option D} (hf : ∀ ds z, g ds = some z → z.imm = true ∧ ∀ (H : Hp) (vs : List V) (F : List Addr) (Q : VK), Reps X.K H false ds vs F → (∀ w H', Same H H' → Rep X.K H' true z w [] → Q w H') → r vs H Q)
    (ha : PXA X es tx) {Q : VK} (tk : Takes X W) (E : EnvOk X.K C H ρ σ Fs) (h : match sCallX g tx ρ with
    | .ok d k ρ' => ∀ v H' F Fs', EnvOk X.K C H' ρ' σ Fs' → Shr ρ Fs ρ' Fs' → RepV X.K C ρ' Fs' H' k d v F → Q v H'
    | .ex x ρ' => ∀ H' Fs' cls dd, EnvOk X.K C H' ρ' σ Fs' → XRep X.K H' x cls dd → W cls dd σ H'
    | .bad => False) : WA X es σ H fun vs H1 => r vs H1 Q := by
  refine ha.run C W ρ σ H Fs _ tk E ?_
  unfold sCallX at h
  cases h1 : tx ρ with
  | bad => rw [h1] at h; exact h.elim
  | ex z ρ2 => rw [h1] at h; exact h
  | ok l ρ2 =>
    rw [h1] at h
    intro vs H2 Gs Fs2 E2 sh rs
    cases h3 : g (dsOf l) with
    | none => simp only [h3] at h
    | some z =>
      simp only [h3] at h
      obtain ⟨im, go⟩ := hf _ _ h3
      exact go H2 vs _ Q rs.all.rep fun w H3 s3 rw => h w H3 [] Fs2 (E2.same s3) sh ⟨rw, List.nodup_nil, fun a ha => by cases ha⟩
theorem xCallB {id : String} {x : Str} {g : List D → Option D} (o : CaD X (.builtin id) g) (hg : Gl X x) (hm : X.mg x = none) (hv : bootBuiltins x = some (.builtin id)) (ha : PXA X (e :: es) tx) (hn : x ≠ "__name__" := by decide) (hdb : (x == ("__debug__" : Str)) = false := by decide)
    (he : starEach (e :: es) X.env = (false, eval e X.env) :: starEach es X.env := by rfl) (hpl : (backTo pos (starEach es X.env)).any (·.1) = false := by rfl) : PX X (.Call (.Name x p) (e :: es) [] pos) (sCallX g tx) := by
  obtain ⟨r, hr, hf⟩ := o
  exact ⟨fun C W ρ σ H Fs Q tk E h => WE.of (pe_callB hr hg hm hv (wa X _) hn hdb he hpl) (callX_go hf ha tk E h)⟩
theorem xCallT {T : String} {x : Str} {g : List D → Option D} (o : CaD X (.type T) g) (hg : Gl X x) (hm : X.mg x = none) (hv : bootBuiltins x = some (.type T)) (ha : PXA X (e :: es) tx) (hn : x ≠ "__name__" := by decide) (hdb : (x == ("__debug__" : Str)) = false := by decide)
    (he : starEach (e :: es) X.env = (false, eval e X.env) :: starEach es X.env := by rfl) (hpl : (backTo pos (starEach es X.env)).any (·.1) = false := by rfl) : PX X (.Call (.Name x p) (e :: es) [] pos) (sCallX g tx) := by
  obtain ⟨r, hr, hf⟩ := o
  exact ⟨fun C W ρ σ H Fs Q tk E h => WE.of (pe_callTy hr hg hm hv (wa X _) hn hdb he hpl) (callX_go hf ha tk E h)⟩
end
end DL
end DLsec17
set_option maxRecDepth 100000
noncomputable section DLsec18
/-! DL18: calls that write their arguments. -/
namespace DL
open PySem PySem.Spec PyProof.Rows L2
section
variable {X : Cx} {C : Ct} {ρ ρ1 ρ2 : DEnv} {σ : L2.St} {H H1 H2 : Hp} {Fs Fs1 Fs2 : Nat → List Addr} {a b e : Expr} {es : List Expr} {sx sb : SX} {s : SE} {t : SA} {tx : SXA} {W : WX} {pos p : Pos} {K : PySem.W.Frag}
/-- arguments, some of them (is) names whose objects the callee writes -/
structure PXI (X : Cx) (es : List Expr) (is : List (Option Nat)) (t : SXA) : Prop where
  run : ∀ (C : Ct) (W : WX) (ρ : DEnv) (σ : L2.St) (H : Hp) (Fs : Nat → List Addr) (Q : List V → Hp → Prop), Takes X W → EnvOk X.K C H ρ σ Fs → (match t ρ with
    | .ok l ρ' => ∀ vs H' Gs Fs', EnvOk X.K C H' ρ' σ Fs' → Shr ρ Fs ρ' Fs' → RepVs X.K C ρ' Fs' H' l vs Gs → (∀ (j i : Nat), is[j]? = some (some i) → ∃ d m v, l[j]? = some (d, kd d (some [i])) ∧ Has ρ' i d m ∧ vs[j]? = some v ∧ σ[i]? = some (some v)) → Q vs H'
    | .ex x ρ' => ∀ H' Fs' cls dd, EnvOk X.K C H' ρ' σ Fs' → XRep X.K H' x cls dd → W cls dd σ H'
    | .bad => False) → WA X es σ H Q
theorem xiT (h : PXA X es tx) (n : Nat) : PXI X es (List.replicate n none) tx := by
  refine ⟨fun C W ρ σ H Fs Q tk E hq => h.run C W ρ σ H Fs Q tk E ?_⟩
  cases h1 : tx ρ with
  | bad => rw [h1] at hq; exact hq.elim
  | ex z ρ2 => rw [h1] at hq; exact hq
  | ok l ρ2 =>
    rw [h1] at hq
    refine fun vs H' Gs Fs' E' sh r => hq vs H' Gs Fs' E' sh r fun j i hj => ?_
    have := List.mem_of_getElem? hj
    rw [List.mem_replicate] at this
    cases this.2
theorem xiC {is : List (Option Nat)} (ha : PX X e sx) (hr : PXI X es is tx) (hs : starEach (e :: es) X.env = (false, eval e X.env) :: starEach es X.env := by rfl) : PXI X (e :: es) (none :: is) (sXC sx tx) := by
  refine ⟨fun C W ρ σ H Fs Q tk E h => WA.of (pa_cons (we X e) (wa X es) hs) (ha.run C W ρ σ H Fs _ tk E ?_)⟩
  unfold sXC at h
  cases h1 : sx ρ with
  | bad => rw [h1] at h; exact h.elim
  | ex z ρ1 => rw [h1] at h; exact h
  | ok x kx ρ1 =>
    rw [h1] at h
    intro v H1 F Fs1 E1 sh1 r1
    by_cases hk : okP (x.imm = true ∨ kx = none) = true
    · simp only [hk, if_true] at h
      obtain ⟨G, r2⟩ := r1.norm (okP_iff.mp hk)
      have Ep := E1.pin (F := G) fun a ha i e n hh => (r2.2.2 a ha).2 i e n hh
      refine hr.run ⟨pinH C.P H1 G, C.pin⟩ W ρ1 σ H1 Fs1 _ tk Ep ?_
      have le : Same C.P (pinH C.P H1 G) := pin_le E1.prot fun a ha => (r2.2.2 a ha).1
      cases h2 : tx ρ1 with
      | bad => rw [h2] at h; exact h.elim
      | ex z ρ2 => rw [h2] at h; exact fun H' Fs' cls dd E' xr => h H' Fs' cls dd (E'.less le) xr
      | ok l ρ2 =>
        rw [h2] at h
        intro vs H2 Gs Fs2 E2 sh2 rs mk
        refine h (v :: vs) H2 (G :: Gs) Fs2 (E2.less le) (sh1.trans sh2) ⟨v, vs, G, Gs, rfl, rfl, r2.keep E2 sh2, rs.less le, fun _ i q G2 h5 h6 h7 a ha hg => ?_⟩ fun j i hj => ?_
        · obtain ⟨w, G3, _, q2, q3⟩ := rs.tr i q h5
          rw [h7] at q2
          cases q2
          rw [h6] at q3
          obtain ⟨u, eu, _⟩ := Rep.tr x v G r2.1 a ha
          exact pin_in ha eu (q3.2.2 a hg).1
        · cases j with
          | zero => simp at hj
          | succ j =>
            obtain ⟨d, m, w, q1, q2, q3, q4⟩ := mk j i (by simpa using hj)
            exact ⟨d, m, w, by simpa using q1, q2, by simpa using q3, q4⟩
    · simp only [hk] at h
      exact h.elim
theorem xiV (i : Nat) {x : Str} {is : List (Option Nat)} {o : Option Nat} (hr : PXI X es is tx) (ho : o = none ∨ o = some i) (hN : X.N[i]? = some x := by rfl) (hv : Vis X.env.scope x := by first | exact Or.inl rfl | exact Or.inr (Or.inl rfl) | exact Or.inr (Or.inr rfl)) (hd : (x == ("__debug__" : Str)) = false := by decide)
    (hcd : (x == ("__classdict__" : Str)) = false := by decide) (hs : starEach (.Name x pos :: es) X.env = (false, eval (.Name x pos) X.env) :: starEach es X.env := by rfl) : PXI X (.Name x pos :: es) (o :: is) (sXV i tx) := by
  refine ⟨fun C W ρ σ H Fs Q tk E h => ?_⟩
  unfold sXV at h
  cases hp : ρ[i]? with
  | none => rw [hp] at h; exact h.elim
  | some p0 =>
    cases p0 with
    | none => rw [hp] at h; exact h.elim
    | some p =>
      rw [hp] at h
      obtain ⟨d, m⟩ := p
      obtain ⟨v, hv', _⟩ := E.rep i d m hp
      refine WA.of (pa_cons (we X _) (wa X es) hs) (WE.of (pe_var hN hv hd hcd) ⟨v, hv', hr.run C W ρ σ H Fs _ tk E ?_⟩)
      cases h2 : tx ρ with
      | bad => simp only [h2] at h
      | ex z ρ2 => simp only [h2] at h; exact h
      | ok l ρ2 =>
        intro vs H2 Gs Fs2 E2 sh rs mk
        cases hq : ρ2[i]? with
        | none => simp only [h2, hq] at h
        | some q =>
          cases q with
          | none => simp only [h2, hq] at h
          | some q =>
            obtain ⟨x', m'⟩ := q
            simp only [h2, hq] at h
            obtain ⟨v', hv2, r⟩ := E2.rep i x' m' hq
            rw [hv'] at hv2
            cases hv2
            have r0 : RepV X.K C ρ2 Fs2 H2 (some [i]) x' v (Fs2 i) := by
              refine ⟨?_, fun a ha j e n hj hn hne hm => E2.dis j i e n x' m' (fun z => hne (by simp [z])) hj hn hq a hm ha⟩
              cases hm : m'.o with
              | true => rw [hm] at r; exact Rep.weak x' v _ r
              | false => rw [hm] at r; exact r
            obtain ⟨G, r1⟩ := RepV.kd r0
            have mk2 : ∀ (j i' : Nat), (o :: is)[j]? = some (some i') → ∃ d m w, ((x', DL.kd x' (some [i])) :: l)[j]? = some (d, DL.kd d (some [i'])) ∧ Has ρ2 i' d m ∧ (v :: vs)[j]? = some w ∧ σ[i']? = some (some w) := fun j i' hj => by
              cases j with
              | zero =>
                have hj : o = some i' := by simpa using hj
                rcases ho with ho | ho
                · rw [ho] at hj; cases hj
                · rw [ho] at hj
                  cases hj
                  exact ⟨x', m', v, rfl, hq, rfl, hv'⟩
              | succ j =>
                obtain ⟨d, m, w, q1, q2, q3, q4⟩ := mk j i' (by simpa using hj)
                exact ⟨d, m, w, by simpa using q1, q2, by simpa using q3, q4⟩
            by_cases im : x'.imm = true
            · have hk : DL.kd x' (some [i]) = none := by unfold DL.kd; rw [if_pos im]
              exact h (v :: vs) H2 ([] :: Gs) Fs2 E2 sh ⟨v, vs, [], Gs, rfl, rfl, RepV.of_im im r0.rep _, rs, fun _ _ _ _ _ _ _ a ha => by cases ha⟩ mk2
            · have hk : DL.kd x' (some [i]) = some [i] := by unfold DL.kd; rw [if_neg im]
              exact h (v :: vs) H2 (G :: Gs) Fs2 E2 sh ⟨v, vs, G, Gs, rfl, rfl, r1, rs, fun z => by rw [hk] at z; cases z⟩ mk2
/-! ### the call -/
/-- the first place of a slot among them -/
def posOf : List (Option Nat) → Nat → Option Nat
  | [], _ => none
  | x :: r, i => if x = some i then some 0 else (match posOf r i with
    | some j => some (j + 1)
    | none => none)
theorem posOf_some : ∀ {is : List (Option Nat)} {i j : Nat}, posOf is i = some j → is[j]? = some (some i)
  | [], i, j, h => by cases h
  | x :: r, i, j, h => by
    unfold posOf at h
    split at h
    · rename_i hx
      cases h
      rw [hx]
      rfl
    · split at h
      · rename_i j' hj
        cases h
        simpa using posOf_some hj
      · cases h
theorem posOf_none : ∀ {is : List (Option Nat)} {i j : Nat}, posOf is i = none → is[j]? ≠ some (some i)
  | [], i, j, h => by simp
  | x :: r, i, j, h => by
    unfold posOf at h
    split at h
    · cases h
    · rename_i hx
      split at h
      · cases h
      · rename_i hn
        cases j with
        | zero => simpa using hx
        | succ j => simpa using posOf_none (j := j) hn
def ioSetAt (is : List (Option Nat)) (us : List D) (i : Nat) (x : Sl) : Sl := match posOf is i with
  | none => x
  | some j => (match us[j]?, x with
    | some d, some (_, m) => some (d, m)
    | _, _ => x)
def ioSet (is : List (Option Nat)) (us : List D) (ρ : DEnv) : DEnv := ρ.mapIdx (ioSetAt is us)
theorem ioSet_has {is : List (Option Nat)} {us : List D} {i : Nat} {d : D} {m : Md} : Has (ioSet is us ρ) i d m ↔ ∃ x, ρ[i]? = some x ∧ ioSetAt is us i x = some (d, m) := by
  unfold Has ioSet
  rw [List.getElem?_mapIdx]
  cases ρ[i]? with
  | none => simp
  | some x => simp
/-- the names whose objects are written: each once, its slot's own, no other argument holds a part of it -/
def IoOk (is : List (Option Nat)) (l : List (D × Kd)) (ρ : DEnv) : Prop :=
  l.length = is.length ∧ ∀ (j i : Nat), is[j]? = some (some i) → (∀ d m, Has ρ i d m → m.o = true) ∧ (∀ j' : Nat, is[j']? = some (some i) → j' = j) ∧ ∀ (j' : Nat) (d' : D) (R : List Nat), j' ≠ j → l[j']? = some (d', some R) → i ∉ R
def sCallIO (fs : FS) (is : List (Option Nat)) (t : SXA) : SX := fun ρ => match t ρ with
  | .ok l ρ2 => if okP (IoOk is l ρ2) = true then (match fs (dsOf l) with
    | .ok z us => .ok z none (ioSet is us ρ2)
    | _ => .bad) else .bad
  | .ex z ρ2 => .ex z ρ2
  | .bad => .bad
def ioFs (is : List (Option Nat)) (Fs : Nat → List Addr) (Gs : List (List Addr)) (j : Nat) : List Addr := match is[j]? with
  | some (some i) => Fs i
  | _ => Gs.getD j []
theorem io_env {is : List (Option Nat)} {io : List Bool} {l : List (D × Kd)} {vs : List V} {Gs : List (List Addr)} (hio : is.map Option.isSome = io) (E : EnvOk K C H ρ σ Fs) (r : RepVs K C ρ Fs H l vs Gs) (ok : IoOk is l ρ)
    (mk : ∀ (j i : Nat), is[j]? = some (some i) → ∃ d m v, l[j]? = some (d, kd d (some [i])) ∧ Has ρ i d m ∧ vs[j]? = some v ∧ σ[i]? = some (some v)) :
    vs.length = io.length ∧ (dsOf l).length = io.length ∧ EnvOk K ⟨outOf H io (ioFs is Fs Gs), fun i => vs.getD i .non⟩ H (argEnv io (dsOf l)) (vs.map some) (ioFs is Fs Gs) := by
  obtain ⟨hl, ok⟩ := ok
  obtain ⟨l1, l2⟩ := r.lens
  have hioL : io.length = is.length := by rw [← hio, List.length_map]
  have hd : (dsOf l).length = l.length := by simp [dsOf]
  have ioT : ∀ {j : Nat}, io[j]? = some true ↔ ∃ i, is[j]? = some (some i) := fun {j} => by
    rw [← hio, List.getElem?_map]
    cases is[j]? with
    | none => simp
    | some x => cases x <;> simp
  have ioF : ∀ {j : Nat}, io[j]? = some false → is[j]? = some none := fun {j} h => by
    rw [← hio, List.getElem?_map] at h
    cases e : is[j]? with
    | none => rw [e] at h; simp at h
    | some x => cases x with
      | none => rfl
      | some y => rw [e] at h; simp at h
  have lget : ∀ {j : Nat} {d : D}, (dsOf l)[j]? = some d → ∃ k, l[j]? = some (d, k) := fun {j d} h => by
    unfold dsOf at h
    rw [List.getElem?_map] at h
    cases e : l[j]? with
    | none => rw [e] at h; cases h
    | some q => rw [e] at h; obtain ⟨d', k⟩ := q; cases h; exact ⟨k, rfl⟩
  refine ⟨by omega, by omega, ?_⟩
  refine ⟨by rw [List.length_map, argEnv_len (by omega)]; omega, fun j d m h => ?_, fun j d m h o => ?_, fun j j2 d m e n hne h o h2 => ?_, outOf_same _ _ _, fun j d h => ?_, fun j h => ?_⟩
  · obtain ⟨h1, o, h3, h4⟩ := argEnv_has h
    obtain ⟨k, hk⟩ := lget h1
    cases o with
    | true =>
      obtain ⟨i, hi⟩ := ioT.mp h3
      obtain ⟨d', m', v, q1, q2, q3, q4⟩ := mk j i hi
      rw [hk] at q1
      cases q1
      obtain ⟨v', q5, q6⟩ := E.rep i d m' q2
      rw [q4] at q5
      cases q5
      refine ⟨v, by rw [List.getElem?_map, q3]; rfl, ?_⟩
      rw [(ok j i hi).1 d m' q2] at q6
      rw [h4]
      show Rep K H true d v _
      unfold ioFs
      rw [hi]
      exact q6
    | false =>
      obtain ⟨v, G, q1, q2, q3⟩ := r.tr j _ hk
      refine ⟨v, by rw [List.getElem?_map, q1]; rfl, ?_⟩
      rw [h4]
      show Rep K H false d v _
      unfold ioFs
      rw [ioF h3]
      show Rep K H false d v (Gs.getD j [])
      rw [List.getD_eq_getElem?_getD, q2]
      exact q3.rep
  · obtain ⟨h1, q, h3, h4⟩ := argEnv_has h
    cases q with
    | false => rw [h4] at o; cases o
    | true =>
      obtain ⟨i, hi⟩ := ioT.mp h3
      obtain ⟨d', m', v, q1, q2, q3, q4⟩ := mk j i hi
      have hm := (ok j i hi).1 d' m' q2
      have eF : ioFs is Fs Gs j = Fs i := by unfold ioFs; rw [hi]
      refine ⟨by rw [eF]; exact (E.nd i d' m' q2 hm).1, fun a ha => outOf_in h3 ha⟩
  · obtain ⟨h1, q, h3, h4⟩ := argEnv_has h
    cases q with
    | false => rw [h4] at o; cases o
    | true =>
      obtain ⟨i, hi⟩ := ioT.mp h3
      obtain ⟨d', m', v, q1, q2, q3, q4⟩ := mk j i hi
      obtain ⟨ok1, ok2, ok3⟩ := ok j i hi
      have hm := ok1 d' m' q2
      have eF : ioFs is Fs Gs j = Fs i := by unfold ioFs; rw [hi]
      rw [eF]
      obtain ⟨g1, q', g3, g4⟩ := argEnv_has h2
      obtain ⟨k2, hk2⟩ := lget g1
      intro a ha
      cases q' with
      | true =>
        obtain ⟨i2, hi2⟩ := ioT.mp g3
        obtain ⟨e', n', w, z1, z2, z3, z4⟩ := mk j2 i2 hi2
        have eF2 : ioFs is Fs Gs j2 = Fs i2 := by unfold ioFs; rw [hi2]
        rw [eF2]
        have hii : i ≠ i2 := fun z => hne (ok2 j2 (z ▸ hi2)).symm
        exact E.dis i i2 d' m' e' n' hii q2 hm z2 a ha
      | false =>
        obtain ⟨w, G, z1, z2, z3⟩ := r.tr j2 _ hk2
        have eF2 : ioFs is Fs Gs j2 = G := by
          unfold ioFs
          rw [ioF g3]
          show Gs.getD j2 [] = G
          rw [List.getD_eq_getElem?_getD, z2]
          rfl
        rw [eF2]
        intro hg
        cases k2 with
        | none => exact (z3.2.2 a hg).2 i d' m' q2 ha
        | some R => exact z3.2 a hg i d' m' q2 hm (ok3 j2 e R (Ne.symm hne) hk2) ha
  · obtain ⟨h1, q, h3, h4⟩ := argEnv_has h
    have hlt : j < vs.length := by
      have := (List.getElem?_eq_some_iff.mp h1).1
      omega
    rw [List.getElem?_map, List.getElem?_eq_getElem hlt]
    show some (some vs[j]) = some (some (vs.getD j .non))
    rw [List.getD_eq_getElem?_getD, List.getElem?_eq_getElem hlt]
    rfl
  · by_cases hlt : j < l.length
    · have h1 : (dsOf l)[j]? = some (l[j]).1 := by
        unfold dsOf
        rw [List.getElem?_map, List.getElem?_eq_getElem hlt]
        rfl
      have hio2 : j < io.length := by omega
      exact absurd (argEnv_get h1 (List.getElem?_eq_getElem hio2)) (h _ _)
    · unfold ioFs
      rw [List.getElem?_eq_none (by omega : is.length ≤ j)]
      show Gs.getD j [] = []
      rw [List.getD_eq_getElem?_getD, List.getElem?_eq_none (by omega)]
      rfl
theorem io_after {is : List (Option Nat)} {io : List Bool} {l : List (D × Kd)} {vs : List V} {Gs : List (List Addr)} {us : List D} {z : D} {Q : VK} (hio : is.map Option.isSome = io) (E : EnvOk K C H ρ σ Fs) (ok : IoOk is l ρ)
    (mk : ∀ (j i : Nat), is[j]? = some (some i) → ∃ d m v, l[j]? = some (d, kd d (some [i])) ∧ Has ρ i d m ∧ vs[j]? = some v ∧ σ[i]? = some (some v))
    (h : ∀ v H' F Fs', EnvOk K C H' (ioSet is us ρ) σ Fs' → Shr ρ Fs (ioSet is us ρ) Fs' → RepV K C (ioSet is us ρ) Fs' H' none z v F → Q v H') : OkPost K io vs H (ioFs is Fs Gs) z us Q := by
  obtain ⟨hl, ok⟩ := ok
  intro v H' F Fs' s ho hd rz ndz frz
  have ioT : ∀ {j : Nat}, io[j]? = some true ↔ ∃ i, is[j]? = some (some i) := fun {j} => by
    rw [← hio, List.getElem?_map]
    cases is[j]? with
    | none => simp
    | some x => cases x <;> simp
  have eF : ∀ {j i : Nat}, is[j]? = some (some i) → ioFs is Fs Gs j = Fs i := fun {j i} hi => by unfold ioFs; rw [hi]
  -- what is free for the callee
  have free : ∀ {a : Addr}, outOf H io (ioFs is Fs Gs) a = none → H a = none ∨ ∃ j i, is[j]? = some (some i) ∧ a ∈ Fs i := fun {a} e => by
    rcases outOf_none e with e | ⟨j, h1, h2⟩
    · exact .inl e
    · obtain ⟨i, hi⟩ := ioT.mp h1
      rw [eF hi] at h2
      exact .inr ⟨j, i, hi, h2⟩
  have stay : ∀ {a : Addr} {u : HO}, H a = some u → (∀ j i, is[j]? = some (some i) → a ∉ Fs i) → H' a = some u := fun {a u} e hn => by
    refine s a u ?_
    rw [outOf_out fun j hj => ?_]
    · exact e
    · obtain ⟨i, hi⟩ := ioT.mp hj
      rw [eF hi]
      exact hn j i hi
  have kp : Kp H H' := by
    refine ⟨fun a o e hn => stay e fun j i hi hm => ?_⟩
    obtain ⟨d, m, v', q1, q2, q3, q4⟩ := mk j i hi
    obtain ⟨w, ew, mu⟩ := E.tr q2 hm
    rw [e] at ew; cases ew
    exact hn mu
  -- the slots afterwards
  have cs : ∀ {i : Nat} {d : D} {m : Md}, Has (ioSet is us ρ) i d m → (posOf is i = none ∧ Has ρ i d m) ∨ ∃ j d0 v', posOf is i = some j ∧ is[j]? = some (some i) ∧ Has ρ i d0 m ∧ m.o = true ∧ vs[j]? = some v' ∧ σ[i]? = some (some v') ∧ us[j]? = some d ∧ Rep K H' true d v' (Fs' j) ∧ (Fs' j).Nodup ∧ ∀ a ∈ Fs' j, outOf H io (ioFs is Fs Gs) a = none := fun {i d m} hh => by
    obtain ⟨x, hx, e⟩ := ioSet_has.mp hh
    unfold ioSetAt at e
    cases hp : posOf is i with
    | none =>
      rw [hp] at e
      exact .inl ⟨rfl, by rw [Has, hx]; exact congrArg _ e⟩
    | some j =>
      have hi := posOf_some hp
      obtain ⟨d0, m0, v', q1, q2, q3, q4⟩ := mk j i hi
      obtain ⟨d', u1, u2, u3, u4⟩ := ho j v' (ioT.mpr ⟨i, hi⟩) q3
      have q2' : ρ[i]? = some (some (d0, m0)) := q2
      rw [hx] at q2'
      cases q2'
      simp only [hp, u1] at e
      cases e
      exact .inr ⟨j, d0, v', rfl, hi, q2, (ok j i hi).1 d0 m q2, q3, q4, u1, u2, u3, u4⟩
  have has2 : ∀ {i : Nat} {d : D} {m : Md}, Has (ioSet is us ρ) i d m → ∃ d0, Has ρ i d0 m := fun {i d m} hh => by
    rcases cs hh with ⟨_, h1⟩ | ⟨j, d0, v', _, _, h1, _⟩
    · exact ⟨d, h1⟩
    · exact ⟨d0, h1⟩
  have hasR : ∀ {i : Nat} {d0 : D} {m : Md}, Has ρ i d0 m → ∃ d, Has (ioSet is us ρ) i d m := fun {i d0 m} hh => by
    cases hp : posOf is i with
    | none => exact ⟨d0, ioSet_has.mpr ⟨_, hh, by unfold ioSetAt; rw [hp]⟩⟩
    | some j =>
      have hi := posOf_some hp
      obtain ⟨d1, m0, v', q1, q2, q3, q4⟩ := mk j i hi
      obtain ⟨d', u1, _⟩ := ho j v' (ioT.mpr ⟨i, hi⟩) q3
      exact ⟨d', ioSet_has.mpr ⟨_, hh, by unfold ioSetAt; simp only [hp, u1]⟩⟩
  have other : ∀ {i j i'' : Nat} {d : D} {m : Md} {a : Addr}, posOf is i = none → Has ρ i d m → is[j]? = some (some i'') → a ∈ Fs i'' → a ∉ Fs i := fun {i j i'' d m a} hp hh hi ha => by
    obtain ⟨d0, m0, v', q1, q2, q3, q4⟩ := mk j i'' hi
    have hne : i'' ≠ i := fun z => posOf_none hp (z ▸ hi)
    exact E.dis i'' i d0 m0 d m hne q2 ((ok j i'' hi).1 d0 m0 q2) hh a ha
  have cnone : ∀ {a : Addr}, outOf H io (ioFs is Fs Gs) a = none → C.P a = none := fun {a} e => by
    rcases free e with e | ⟨j, i, hi, ha⟩
    · exact E.prot.free e
    · obtain ⟨d0, m0, v', q1, q2, q3, q4⟩ := mk j i hi
      exact (E.nd i d0 m0 q2 ((ok j i hi).1 d0 m0 q2)).2 a ha
  have frO : ∀ {i : Nat} {d : D} {m : Md} {a : Addr}, posOf is i = none → Has ρ i d m → outOf H io (ioFs is Fs Gs) a = none → a ∉ Fs i := fun {i d m a} hp hh e ha => by
    rcases free e with e | ⟨j, i'', hi, ha2⟩
    · obtain ⟨u, eu, _⟩ := E.tr hh ha
      rw [e] at eu; cases eu
    · exact other hp hh hi ha2 ha
  refine h v H' F (fun i => match posOf is i with | none => Fs i | some j => Fs' j) ?_ (fun i d hh => ?_) ⟨rz, ndz, fun a ha => ⟨cnone (frz a ha).1, fun i e n hh => ?_⟩⟩
  · refine ⟨by rw [E.len]; simp [ioSet], fun i d m hh => ?_, fun i d m hh o => ?_, fun i i2 d m e n hne hh o hh2 a ha => ?_, fun a o e => ?_, fun i d hh => ?_, fun i hh => ?_⟩
    · rcases cs hh with ⟨hp, h1⟩ | ⟨j, d0, v', hp, hi, h1, hm, q3, q4, u1, u2, u3, u4⟩
      · obtain ⟨w, w1, w2⟩ := E.rep i d m h1
        refine ⟨w, w1, ?_⟩
        simp only [hp]
        refine Rep.kp kp d w _ w2 fun a ha => ?_
        obtain ⟨u, eu, _⟩ := E.tr h1 ha
        rw [eu]
        exact stay eu fun j i'' hi hm => other hp h1 hi hm ha
      · refine ⟨v', q4, ?_⟩
        simp only [hp]
        rw [hm]
        exact u2
    · rcases cs hh with ⟨hp, h1⟩ | ⟨j, d0, v', hp, hi, h1, hm, q3, q4, u1, u2, u3, u4⟩
      · simp only [hp]
        exact E.nd i d m h1 o
      · simp only [hp]
        exact ⟨u3, fun a ha => cnone (u4 a ha)⟩
    · rcases cs hh with ⟨hp, h1⟩ | ⟨j, d0, v', hp, hi, h1, hm, q3, q4, u1, u2, u3, u4⟩
      · simp only [hp] at ha
        rcases cs hh2 with ⟨hp2, g1⟩ | ⟨j2, d2, v2, hp2, hi2, g1, gm, g3, g4, w1, w2, w3, w4⟩
        · simp only [hp2]
          exact E.dis i i2 d m e n hne h1 o g1 a ha
        · simp only [hp2]
          exact fun hb => frO hp h1 (w4 a hb) ha
      · simp only [hp] at ha
        rcases cs hh2 with ⟨hp2, g1⟩ | ⟨j2, d2, v2, hp2, hi2, g1, gm, g3, g4, w1, w2, w3, w4⟩
        · simp only [hp2]
          exact frO hp2 g1 (u4 a ha)
        · simp only [hp2]
          have hjj : j ≠ j2 := fun z => by
            rw [z, hi2] at hi
            cases hi
            exact hne rfl
          exact hd j j2 hjj (ioT.mpr ⟨i, hi⟩) (ioT.mpr ⟨i2, hi2⟩) a ha
    · refine stay (E.prot a o e) fun j i hi hm => ?_
      obtain ⟨d0, m0, v', q1, q2, q3, q4⟩ := mk j i hi
      rw [(E.nd i d0 m0 q2 ((ok j i hi).1 d0 m0 q2)).2 a hm] at e
      cases e
    · obtain ⟨d0, h0⟩ := has2 hh
      exact E.arg i d0 h0
    · have hn : ∀ d m, ¬ Has ρ i d m := fun d m z => let ⟨d', z'⟩ := hasR z; hh d' m z'
      cases hp : posOf is i with
      | none => simp only; exact E.non i hn
      | some j =>
        obtain ⟨d0, m0, v', q1, q2, q3, q4⟩ := mk j i (posOf_some hp)
        exact absurd q2 (hn d0 m0)
  · rcases cs hh with ⟨hp, h1⟩ | ⟨j, d0, v', hp, hi, h1, hm, _⟩
    · exact ⟨h1, by simp only [hp]⟩
    · cases hm
  · rcases cs hh with ⟨hp, h1⟩ | ⟨j, d0, v', hp, hi, h1, hm, q3, q4, u1, u2, u3, u4⟩
    · simp only [hp]
      exact frO hp h1 (frz a ha).1
    · simp only [hp]
      exact (frz a ha).2 j (ioT.mpr ⟨i, hi⟩)
/-- a def of the text is called, writes its arguments' objects, no exception comes -/
theorem xCallIO {k : Nat} {io : List Bool} {is : List (Option Nat)} {fs : FS} {x : Str} (c : Cal X.prog X.w X.K X.mg X.base CX0 x k io fs) (hr : Room k X.A) (ha : PXI X (e :: es) is tx) (hio : is.map Option.isSome = io := by rfl)
    (hg : Gl X x := by rfl) (hdb : (x == ("__debug__" : Str)) = false := by decide) (he : starEach (e :: es) X.env = (false, eval e X.env) :: starEach es X.env := by rfl) (hpl : (backTo pos (starEach es X.env)).any (·.1) = false := by rfl) :
    PX X (.Call (.Name x p) (e :: es) [] pos) (sCallIO fs is tx) := by
  obtain ⟨f, fd, ps, F, hm, hk, hb⟩ := c
  refine ⟨fun C W ρ σ H Fs Q tk E h => WE.of (pe_call F hr hg hm hk hb .nil pass0 (wa X _) hdb he hpl) (ha.run C W ρ σ H Fs _ tk E ?_)⟩
  unfold sCallIO at h
  cases h1 : tx ρ with
  | bad => rw [h1] at h; exact h.elim
  | ex z ρ2 => rw [h1] at h; exact h
  | ok l ρ2 =>
    rw [h1] at h
    by_cases hok : okP (IoOk is l ρ2) = true
    · simp only [hok, if_true] at h
      have ok := okP_iff.mp hok
      intro vs H2 Gs Fs2 E2 sh rs mk
      rw [List.append_nil]
      obtain ⟨e1, e2, e3⟩ := io_env hio E2 rs ok mk
      refine ⟨dsOf l, ioFs is Fs2 Gs, e1, e2, e3, ?_⟩
      cases h3 : fs (dsOf l) with
      | ex z => simp only [h3] at h
      | bad => simp only [h3] at h
      | ok z us =>
        simp only [h3] at h
        exact io_after hio E2 ok mk fun v H' F Fs' E' sh' r => h v H' F Fs' E' (sh.trans sh') r
    · simp only [hok] at h
      exact h.elim
end
end DL
end DLsec18
set_option maxRecDepth 100000
noncomputable section DLsec19
/-! DL19: lists that are written: append, pop, x[i] = y. -/
namespace DL
open PySem PySem.Spec PyProof.Rows L2
section
variable {X : Cx} {C : Ct} {ρ ρ1 ρ2 : DEnv} {σ : L2.St} {H H1 H2 : Hp} {Fs Fs1 Fs2 : Nat → List Addr} {a b e : Expr} {es : List Expr} {sx sb : SX} {s : SE} {t : SA} {tx : SXA} {W : WX} {pos p : Pos} {K : PySem.W.Frag}
/-- a slot's own list, and how it is written -/
theorem EnvOk.lst (E : EnvOk K C H ρ σ Fs) {i : Nat} {ds : List D} {m : Md} (hh : Has ρ i (.lst ds) m) (hm : m.o = true) :
    ∃ (a : Addr) (vs : List V) (G : List Addr), σ[i]? = some (some (.ref a)) ∧ H a = some (.lst vs) ∧ Reps K H true ds vs G ∧ Fs i = a :: G ∧ a ∉ G ∧ G.Nodup ∧
      ∀ (ds' : List D) (vs' : List V) (G' : List Addr), Reps K H true ds' vs' G' → G'.Nodup → (∀ x ∈ G', x ∈ G ∨ (C.P x = none ∧ ∀ j e n, Has ρ j e n → x ∉ Fs j)) →
        EnvOk K C (upd H a (.lst vs')) (ρ.set i (some (.lst ds', m))) σ (fun j => if j = i then a :: G' else Fs j) := by
  obtain ⟨v, hv, r⟩ := E.rep i _ m hh
  rw [hm] at r
  obtain ⟨a, vs, G, rfl, hr, hl, eF⟩ := r
  obtain ⟨nd, _⟩ := E.nd i _ m hh hm
  rw [eF] at nd
  have nd' := List.nodup_cons.mp nd
  refine ⟨a, vs, G, hv, hl, hr, eF, nd'.1, nd'.2, fun ds' vs' G' hr' n' h => ?_⟩
  have haG : a ∉ G' := fun z => by
    rcases h a z with q | q
    · exact nd'.1 q
    · exact q.2 i _ m hh (by rw [eF]; exact List.mem_cons_self)
  refine E.wr hh hm (Kp.upd hl trivial) (fun b o e hb => ?_) (fun w hw => ?_) (List.nodup_cons.mpr ⟨haG, n'⟩) fun x hx => ?_
  · rw [upd_ne]
    · exact e
    · rintro rfl
      exact hb (by rw [eF]; exact List.mem_cons_self)
  · rw [hv] at hw
    cases hw
    refine ⟨a, vs', G', rfl, ?_, upd_same, rfl⟩
    exact Reps.kp (Kp.upd hl trivial) _ _ _ hr' fun x hx => upd_ne (fun z => haG (z ▸ hx))
  · rcases List.mem_cons.mp hx with rfl | hx
    · exact .inl (by rw [eF]; exact List.mem_cons_self)
    · rcases h x hx with q | q
      · exact .inl (by rw [eF]; exact List.mem_cons_of_mem _ q)
      · exact .inr ⟨q.1, fun j e n _ hj => q.2 j e n hj⟩
theorem Shr.set {i : Nat} {d d' : D} {m : Md} (hh : Has ρ i d m) (hm : m.o = true) {F : List Addr} : Shr ρ Fs (ρ.set i (some (d', m))) (fun j => if j = i then F else Fs j) := fun j e h => by
  have hi : i < ρ.length := (List.getElem?_eq_some_iff.mp hh).1
  by_cases hj : j = i
  · subst hj
    have h : (ρ.set j (some (d', m)))[j]? = some (some (e, Md.shr)) := h
    rw [List.getElem?_set_self hi] at h
    cases h
    cases hm
  · have h : (ρ.set i (some (d', m)))[j]? = some (some (e, Md.shr)) := h
    rw [List.getElem?_set_ne (Ne.symm hj)] at h
    exact ⟨h, by simp [hj]⟩
/-- the object of a name, a list then -/
theorem var_lst (E : EnvOk K C H ρ σ Fs) {i : Nat} {ds : List D} {m : Md} (hh : Has ρ i (.lst ds) m) : ∃ (a : Addr) (vs : List V), σ[i]? = some (some (.ref a)) ∧ H a = some (.lst vs) := by
  obtain ⟨v, hv, r⟩ := E.rep i _ m hh
  obtain ⟨a, vs, G, rfl, hr, hl, eF⟩ := r
  exact ⟨a, vs, hv, hl⟩
/-! ### append -/
def sAppend (i : Nat) (sb : SX) : SX := fun ρ => match ρ[i]? with
  | some (some (.lst _, _)) => (match sb ρ with
    | .ok y ky ρ2 => (match ρ2[i]? with
      | some (some (.lst ds, m)) => if okP (m.o = true ∧ (y.imm = true ∨ ky = none) ∧ ds.length < sizeLine) = true then .ok .non none (ρ2.set i (some (.lst (ds ++ [y]), m))) else .bad
      | _ => .bad)
    | .ex z ρ2 => .ex z ρ2
    | .bad => .bad)
  | _ => .bad
theorem non_V : RepV K C ρ Fs H none .non .non [] := ⟨⟨rfl, rfl⟩, List.nodup_nil, fun a ha => by cases ha⟩
theorem xAppend (i : Nat) {x : Str} {apos cpos npos : Pos} (hb : PX X b sb) (hN : X.N[i]? = some x := by rfl) (hv : Vis X.env.scope x := by first | exact Or.inl rfl | exact Or.inr (Or.inl rfl) | exact Or.inr (Or.inr rfl)) (hd : (x == ("__debug__" : Str)) = false := by decide)
    (hcd : (x == ("__classdict__" : Str)) = false := by decide) (hbase : attributeBase (.Name x npos) "append" X.env (eval (.Name x npos) X.env) = eval (.Name x npos) X.env := by rfl) (hline : (apos.endLine == cpos.line) = true := by rfl)
    (hfew : ((backTo cpos (starEach [b] X.env)).all (fun x => !x.1) && (backToKw cpos (keywordEach [] X.env)).all (fun x => x.1.isSome)
      && decide ([b].length + ([] : List Keyword).length + (if ([] : List Keyword).isEmpty then 0 else 1) < 30)) = true := by rfl)
    (hs : starEach [b] X.env = (false, eval b X.env) :: starEach [] X.env := by rfl) (hplain : (backTo cpos (starEach ([] : List Expr) X.env)).any (·.1) = false := by rfl) :
    PX X (.Call (.Attribute (.Name x npos) "append" apos) [b] [] cpos) (sAppend i sb) := by
  refine ⟨fun C W ρ σ H Fs Q tk E h => WE.of (pe_bm PySem.F.plainAttrs_list PySem.F.slot_list_append PySem.F.type_list_append mt_append (pe_var hN hv hd hcd) (pa_cons (we X b) pa_nil hs) hbase hfew hline hs hplain) ?_⟩
  unfold sAppend at h
  cases h0 : ρ[i]? with
  | none => simp only [h0] at h
  | some q0 =>
    cases q0 with
    | none => simp only [h0] at h
    | some q =>
      obtain ⟨d0, m0⟩ := q
      cases d0 with
      | lst ds0 =>
        simp only [h0] at h
        obtain ⟨p, vs0, hp, hl0⟩ := var_lst E h0
        refine ⟨.ref p, hp, .inl ⟨rfl, vs0, SqL.of hl0⟩, hb.run C W ρ σ H Fs _ tk E ?_⟩
        cases h2 : sb ρ with
        | bad => simp only [h2] at h
        | ex z ρ2 => simp only [h2] at h; exact h
        | ok y ky ρ2 =>
          intro u H2 F Fs2 E2 sh ru
          simp only [h2] at h
          cases h3 : ρ2[i]? with
          | none => simp only [h3] at h
          | some q0 =>
            cases q0 with
            | none => simp only [h3] at h
            | some q =>
              obtain ⟨d1, m⟩ := q
              cases d1 with
              | lst ds =>
                simp only [h3] at h
                by_cases hk : okP (m.o = true ∧ (y.imm = true ∨ ky = none) ∧ ds.length < sizeLine) = true
                · simp only [hk, if_true] at h
                  obtain ⟨hm, hy, hz⟩ := okP_iff.mp hk
                  obtain ⟨G1, r1⟩ := ru.norm hy
                  obtain ⟨p', vs, G, hp', hl, hr, eF, ha, nd, wr⟩ := E2.lst h3 hm
                  rw [hp] at hp'
                  cases hp'
                  have hdis : ∀ x ∈ G, x ∉ G1 := fun x hx hx1 => (r1.2.2 x hx1).2 i _ m h3 (by rw [eF]; exact List.mem_cons_of_mem _ hx)
                  have E3 := wr (ds ++ [y]) (vs ++ [u]) (G ++ G1) (Reps.app hr (Reps.one r1.1)) (List.nodup_append.mpr ⟨nd, r1.2.1, fun x hx z hz e => hdis x hx (e ▸ hz)⟩) fun x hx => by
                    rcases List.mem_append.mp hx with q | q
                    · exact .inl q
                    · exact .inr ⟨(r1.2.2 x q).1, (r1.2.2 x q).2⟩
                  refine ⟨p, vs, u, rfl, rfl, hl, by rw [Reps.len hr]; exact hz, ?_⟩
                  exact h .non _ [] _ E3 (sh.trans (Shr.set h3 hm)) non_V
                · simp only [hk] at h
                  exact h.elim
              | _ => simp only [h3] at h
      | _ => simp only [h0] at h
/-! ### pop() -/
def sPop (i : Nat) : SX := fun ρ => match ρ[i]? with
  | some (some (.lst ds, m)) => if okP (m.o = true ∧ ds ≠ []) = true then .ok (ds.getLastD .non) none (ρ.set i (some (.lst ds.dropLast, m))) else .bad
  | _ => .bad
theorem Reps.last {o : Bool} : ∀ {ds : List D} {vs : List V} {F : List Addr}, Reps K H o ds vs F → ds ≠ [] → ∃ u G1 G2, vs[vs.length - 1]? = some u ∧ F = G1 ++ G2 ∧ Reps K H o ds.dropLast vs.dropLast G1 ∧ Rep K H o (ds.getLastD .non) u G2
  | [], _, _, _, h => absurd rfl h
  | [d], vs, F, r, _ => by
    obtain ⟨v, ws, G1, G2, rfl, rfl, h3, h4⟩ := r
    obtain ⟨rfl, rfl⟩ := h4
    exact ⟨v, [], G1, rfl, by simp, ⟨rfl, rfl⟩, h3⟩
  | d :: d' :: ds, vs, F, r, _ => by
    obtain ⟨v, ws, G1, G2, rfl, rfl, h3, h4⟩ := r
    obtain ⟨u, A, B, e1, e2, e3, e4⟩ := Reps.last h4 (fun z => by cases z)
    have hw : ws.length = (d' :: ds).length := Reps.len h4
    have hw2 : ws.length = ws.length - 1 + 1 := by rw [hw]; rfl
    have hne : ws ≠ [] := fun z => by rw [z] at hw; cases hw
    refine ⟨u, G1 ++ A, B, ?_, by rw [e2, List.append_assoc], ?_, e4⟩
    · rw [List.length_cons, Nat.add_sub_cancel, hw2, List.getElem?_cons_succ]
      exact e1
    · rw [List.dropLast_cons_of_ne_nil (fun z => by cases z), List.dropLast_cons_of_ne_nil hne]
      exact ⟨v, ws.dropLast, G1, A, rfl, rfl, h3, e3⟩
theorem xPop (i : Nat) {x : Str} {apos cpos npos : Pos} (hN : X.N[i]? = some x := by rfl) (hv : Vis X.env.scope x := by first | exact Or.inl rfl | exact Or.inr (Or.inl rfl) | exact Or.inr (Or.inr rfl)) (hd : (x == ("__debug__" : Str)) = false := by decide)
    (hcd : (x == ("__classdict__" : Str)) = false := by decide) (hbase : attributeBase (.Name x npos) "pop" X.env (eval (.Name x npos) X.env) = eval (.Name x npos) X.env := by rfl) (hline : (apos.endLine == cpos.line) = true := by rfl) :
    PX X (.Call (.Attribute (.Name x npos) "pop" apos) [] [] cpos) (sPop i) := by
  refine ⟨fun C W ρ σ H Fs Q tk E h => WE.of (pe_bm0 PySem.F.plainAttrs_list PySem.F.slot_list_pop PySem.F.type_list_pop mt_pop (pe_var hN hv hd hcd) hbase hline) ?_⟩
  unfold sPop at h
  cases h0 : ρ[i]? with
  | none => simp only [h0] at h
  | some q0 =>
    cases q0 with
    | none => simp only [h0] at h
    | some q =>
      obtain ⟨d0, m⟩ := q
      cases d0 with
      | lst ds =>
        simp only [h0] at h
        by_cases hk : okP (m.o = true ∧ ds ≠ []) = true
        · simp only [hk, if_true] at h
          obtain ⟨hm, hne⟩ := okP_iff.mp hk
          obtain ⟨p, vs, G, hp, hl, hr, eF, ha, nd, wr⟩ := E.lst h0 hm
          obtain ⟨u, G1, G2, e1, e2, e3, e4⟩ := Reps.last hr hne
          rw [e2] at nd
          obtain ⟨nd1, nd2, dis⟩ := List.nodup_append.mp nd
          have E3 := wr ds.dropLast vs.dropLast G1 e3 nd1 fun x hx => .inl (by rw [e2]; exact List.mem_append_left _ hx)
          have haG2 : p ∉ G2 := fun z => ha (by rw [e2]; exact List.mem_append_right _ z)
          refine ⟨.ref p, hp, .inl ⟨rfl, vs, SqL.of hl⟩, p, vs, u, rfl, rfl, hl, e1, ?_⟩
          refine h u _ G2 _ E3 (Shr.set h0 hm) ⟨Rep.kp (Kp.upd hl trivial) _ _ _ e4 fun x hx => upd_ne (fun z => haG2 (z ▸ hx)), nd2, fun x hx => ⟨?_, fun j e n hj hmm => ?_⟩⟩
          · exact (E.nd i _ m h0 hm).2 x (by rw [eF, e2]; exact List.mem_cons_of_mem _ (List.mem_append_right _ hx))
          · by_cases hji : j = i
            · subst hji
              simp only [if_true] at hmm
              rcases List.mem_cons.mp hmm with rfl | hmm
              · exact haG2 hx
              · exact dis x hmm x hx rfl
            · simp only [hji, if_false] at hmm
              have hj' : Has ρ j e n := by
                have hj : (ρ.set i (some (D.lst ds.dropLast, m)))[j]? = some (some (e, n)) := hj
                rw [List.getElem?_set_ne (Ne.symm hji)] at hj
                exact hj
              exact E.dis i j _ m e n (Ne.symm hji) h0 hm hj' x (by rw [eF, e2]; exact List.mem_cons_of_mem _ (List.mem_append_right _ hx)) hmm
        · simp only [hk] at h
          exact h.elim
      | _ => simp only [h0] at h
/-! ### x[i] = y -/
theorem Reps.set {o : Bool} {y : D} {u : V} {G : List Addr} (ru : Rep K H o y u G) : ∀ {n : Nat} {ds : List D} {vs : List V} {F : List Addr}, Reps K H o ds vs F → n < ds.length → ∃ A B D', F = A ++ B ++ D' ∧ Reps K H o (ds.set n y) (vs.set n u) (A ++ G ++ D')
  | n, [], _, _, _, h => absurd h (Nat.not_lt_zero _)
  | 0, d :: ds, vs, F, r, _ => by
    obtain ⟨v, ws, G1, G2, rfl, rfl, h3, h4⟩ := r
    exact ⟨[], G1, G2, by simp, u, ws, G, G2, rfl, by simp, ru, h4⟩
  | n + 1, d :: ds, vs, F, r, h => by
    obtain ⟨v, ws, G1, G2, rfl, rfl, h3, h4⟩ := r
    obtain ⟨A, B, D', e1, e2⟩ := Reps.set ru (n := n) h4 (by simpa using h)
    exact ⟨G1 ++ A, B, D', by rw [e1]; simp [List.append_assoc], v, ws.set n u, G1, A ++ G ++ D', rfl, by simp [List.append_assoc], h3, e2⟩
def sSetIx (i : Nat) (ix : SE) (s : SX) : SS := fun ρ => match s ρ with
  | .ok y ky ρ1 => (match ix ρ1, ρ1[i]? with
    | some (.int j, _), some (some (.lst ds, m)) => if okP (m.o = true ∧ (y.imm = true ∨ ky = none)) = true then (match ixN ds.length j with
      | some n => .nx (ρ1.set i (some (.lst (ds.set n y), m)))
      | none => .bad) else .bad
    | _, _ => .bad)
  | .ex z ρ1 => .ex z ρ1
  | .bad => .bad
theorem dSetIx (i : Nat) {x : Str} {ix : Expr} {six : SE} {npos tpos : Pos} (hi : PP X ix six) (he : PX X e sx) (hN : X.N[i]? = some x := by rfl) (hv : Vis X.env.scope x := by first | exact Or.inl rfl | exact Or.inr (Or.inl rfl) | exact Or.inr (Or.inr rfl)) (hd : (x == ("__debug__" : Str)) = false := by decide)
    (hcd : (x == ("__classdict__" : Str)) = false := by decide)
    (ha : ∀ v, assign (.Subscript (.Name x npos) ix tpos) X.env v = (do
      let ov ← holding [v] (eval (.Name x npos) X.env)
      let iv ← holding [v, ov] (eval ix X.env)
      standAt tpos
      holding [v, ov, iv] (setItem ov iv v)
      release [v, ov, iv] []) := by intro _; rfl)
    (hs : swapsWithSole [.Subscript (.Name x npos) ix tpos] e pos.line X.env = pure false := by rfl) (hw : swappedStores [.Subscript (.Name x npos) ix tpos] e X.env = pure none := by rfl)
    (h1 : (assignEach [.Subscript (.Name x npos) ix tpos] X.env).map (·.2) = [assign (.Subscript (.Name x npos) ix tpos) X.env] := by rfl) : PSd X (.Assign [.Subscript (.Name x npos) ix tpos] e pos) (sSetIx i six sx) := by
  refine ⟨fun C W Z ρ σ H Fs tk E h => WS.of (ps_asg (we X e) (pg_sub (pe_var hN hv hd hcd) (we X ix) set_list ha) hs hw h1) (he.run C W ρ σ H Fs _ tk E ?_)⟩
  unfold sSetIx at h
  cases h2 : sx ρ with
  | bad => rw [h2] at h; exact h.elim
  | ex z ρ1 => rw [h2] at h; exact fun H' Fs' cls dd E' xr => h H' σ Fs' cls dd E' xr
  | ok y ky ρ1 =>
    rw [h2] at h
    intro u H1 F Fs1 E1 sh ru
    cases h3 : six ρ1 with
    | none => simp only [h3] at h; exact h.elim
    | some q =>
      obtain ⟨dj, kj⟩ := q
      cases dj with
      | int j =>
        cases h4 : ρ1[i]? with
        | none => simp only [h3, h4] at h; exact h.elim
        | some q0 =>
          cases q0 with
          | none => simp only [h3, h4] at h; exact h.elim
          | some q =>
            obtain ⟨d1, m⟩ := q
            cases d1 with
            | lst ds =>
              simp only [h3, h4] at h
              by_cases hk : okP (m.o = true ∧ (y.imm = true ∨ ky = none)) = true
              · simp only [hk, if_true] at h
                obtain ⟨hm, hy⟩ := okP_iff.mp hk
                cases h5 : ixN ds.length j with
                | none => simp only [h5] at h; exact h.elim
                | some n =>
                  simp only [h5] at h
                  obtain ⟨G1, r1⟩ := ru.norm hy
                  obtain ⟨p0, vs0, hp0, _⟩ := var_lst E1 h4
                  refine ⟨.ref p0, hp0, hi.run C ρ1 σ H1 Fs1 _ _ _ E1 h3 fun w H2 F2 s2 r2 => ?_⟩
                  have E2 := E1.same s2
                  have hw : w = .int j := r2.rep.1
                  obtain ⟨p, vs, G, hp, hl, hr, eF, hap, nd, wr⟩ := E2.lst h4 hm
                  rw [hp0] at hp
                  cases hp
                  have hlen := Reps.len hr
                  have hn : n < ds.length := by
                    have hq := (ixN_seq h5)
                    omega
                  have ry : Rep X.K H2 true y u G1 := r1.1.same s2
                  obtain ⟨A, B, D', e1, e2⟩ := Reps.set ry hr hn
                  have hG : ∀ x ∈ A ++ D', x ∈ G := fun x hx => by
                    rw [e1]
                    rcases List.mem_append.mp hx with q | q
                    · exact List.mem_append_left _ (List.mem_append_left _ q)
                    · exact List.mem_append_right _ q
                  have hdis : ∀ x ∈ G, x ∉ G1 := fun x hx hx1 => (r1.2.2 x hx1).2 i _ m h4 (by rw [eF]; exact List.mem_cons_of_mem _ hx)
                  rw [e1] at nd
                  obtain ⟨ndAB, ndD, d1⟩ := List.nodup_append.mp nd
                  obtain ⟨ndA, ndB, d2⟩ := List.nodup_append.mp ndAB
                  have E3 := wr (ds.set n y) (vs.set n u) (A ++ G1 ++ D') e2 (List.nodup_append.mpr ⟨List.nodup_append.mpr ⟨ndA, r1.2.1, fun x hx z hz e => hdis x (hG x (List.mem_append_left _ hx)) (e ▸ hz)⟩, ndD, fun x hx z hz e => by
                    subst e
                    rcases List.mem_append.mp hx with q | q
                    · exact d1 x (List.mem_append_left _ q) x hz rfl
                    · exact hdis x (hG x (List.mem_append_right _ hz)) q⟩) fun x hx => by
                    rcases List.mem_append.mp hx with q | q
                    · rcases List.mem_append.mp q with q | q
                      · exact .inl (hG x (List.mem_append_left _ q))
                      · exact .inr ⟨(r1.2.2 x q).1, (r1.2.2 x q).2⟩
                    · exact .inl (hG x (List.mem_append_right _ q))
                  exact ⟨p0, vs, j, n, rfl, hw, hl, by rw [hlen]; exact h5, h _ σ _ E3⟩
              · simp only [hk] at h
                exact h.elim
            | _ => simp only [h3, h4] at h; exact h.elim
      | _ => simp only [h3] at h; exact h.elim
end
end DL
end DLsec19
set_option maxRecDepth 100000
noncomputable section DLsec20
/-! DL20: for over a list whose making writes; deep equality; x += y. -/
namespace DL
open PySem PySem.Spec PyProof.Rows L2
section
variable {X : Cx} {C : Ct} {ρ ρ1 ρ2 : DEnv} {σ : L2.St} {H H1 H2 : Hp} {Fs Fs1 Fs2 : Nat → List Addr} {a b e : Expr} {es : List Expr} {sx sb : SX} {s : SE} {t : SS} {tx : SXA} {W : WX} {pos p : Pos} {K : PySem.W.Frag} {sts : List Stmt}
/-- a loop over what stands still -/
theorem loop_go {is : List Nat} {tg : Expr} {g : SG} {t : SS} {sts : List Stmt} {Z : Ends} {J : It} {F : List Addr} {ds : List D} (hg : PGd X tg is g) (hb : PSsd X sts t) (tk : Takes X W) (E1 : EnvOk X.K C H1 ρ1 σ Fs)
    (own1 : ∀ i d m, Has ρ1 i d m → m.o = true → ∀ a ∈ Fs i, a ∉ F) (tr : ∀ a ∈ F, ∃ u, H1 a = some u ∧ Mu u) (io : ItOk X.K J (keepH H1 F) ds F) (h : OutOk X.K C Z W (loopS g t ds ρ1)) :
    ∃ V : Nat → Nat → L2.St → Hp → Prop, (∃ m, V 0 m σ H1) ∧ ∀ i m σ H, V i m σ H → (J.stop i H ∧ Z.nx σ H) ∨ (J.go i H ∧ ∃ N : L2.St → Hp → Prop, (∀ σ' H', N σ' H' → ∃ m', m' < m ∧ V (i + 1) m' σ' H') ∧ ∀ x H', J.yld i H x H' → WG X tg x σ H' fun σ2 H2 => WSs X sts { Z with nx := N, ct := N, bk := Z.nx } σ2 H2) := by
  let P' : Hp := orH C.P (keepH H1 F)
  have sP : Same C.P P' := fun b o e => by show orH _ _ b = _; unfold orH; rw [e]
  have sK : Same (keepH H1 F) P' := fun b o e => by
    show orH _ _ b = _
    unfold orH
    cases hb : C.P b with
    | none => exact e
    | some o' =>
      have z := E1.prot b o' hb
      have z2 := keepH_same H1 F b o e
      rw [z] at z2
      rw [z2]
  have E2 : EnvOk X.K ⟨P', C.pin⟩ H1 ρ1 σ Fs := by
    refine ⟨E1.len, E1.rep, fun i d m hh ho => ⟨(E1.nd i d m hh ho).1, fun a ha => ?_⟩, E1.dis, fun b o e => ?_, E1.arg, E1.non⟩
    · show orH _ _ a = none
      unfold orH
      rw [(E1.nd i d m hh ho).2 a ha]
      obtain ⟨u, eu, mu⟩ := E1.trA ha
      exact keepH_none eu mu (own1 i d m hh ho a ha)
    · have e : orH C.P (keepH H1 F) b = some o := e
      unfold orH at e
      cases hb : C.P b with
      | some o' => rw [hb] at e; exact (E1.prot b o' hb).trans e
      | none => rw [hb] at e; exact keepH_same H1 F b o e
  have h2 : OutOk X.K ⟨P', C.pin⟩ Z W (loopS g t ds ρ1) := OutOk.less (C := ⟨P', C.pin⟩) sP h
  refine ⟨fun i m σ H => m = ds.length - i ∧ i ≤ ds.length ∧ ∃ ρ Fs, EnvOk X.K ⟨P', C.pin⟩ H ρ σ Fs ∧ OutOk X.K ⟨P', C.pin⟩ Z W (loopS g t (ds.drop i) ρ), ⟨ds.length, by simp, Nat.zero_le _, ρ1, Fs, E2, by simpa using h2⟩, ?_⟩
  rintro i m σ3 H3 ⟨rfl, hi, ρ3, Fs3, E3, h3⟩
  have sK3 : Same (keepH H1 F) H3 := sK.trans E3.prot
  by_cases hlt : i < ds.length
  · refine .inr ⟨io.go i H3 sK3 hlt, fun σ' H' => i + 1 ≤ ds.length ∧ ∃ ρ Fs, EnvOk X.K ⟨P', C.pin⟩ H' ρ σ' Fs ∧ OutOk X.K ⟨P', C.pin⟩ Z W (loopS g t (ds.drop (i + 1)) ρ), fun σ' H' q => ⟨ds.length - (i + 1), by omega, rfl, q.1, q.2⟩, fun x H' hy => ?_⟩
    obtain ⟨s4, G, hG, r4⟩ := io.yld i H3 x H' ds[i] sK3 (List.getElem?_eq_getElem hlt) hy
    rw [List.drop_eq_getElem_cons hlt] at h3
    rw [loopS] at h3
    cases hgo : g ds[i] (some []) ρ3 with
    | none => rw [hgo] at h3; exact h3.elim
    | some ρ4 =>
      rw [hgo] at h3
      simp only at h3
      have E4 := E3.same s4
      refine hg.run ⟨P', C.pin⟩ ρ3 ρ4 σ3 H' Fs3 ds[i] (some []) x G _ E4 ⟨r4, fun a ha j e n hh ho _ hja => ?_⟩ hgo fun σ5 Fs5 E5 _ _ => ?_
      · -- the item lies in what stands still
        obtain ⟨u, eu, mu⟩ := tr a (hG a ha)
        have hk : keepH H1 F a = some u := by
          unfold keepH
          rw [eu]
          cases u <;> first
            | exact mu.elim
            | exact if_pos (hG a ha)
        have := (E3.nd j e n hh ho).2 a hja
        rw [show (Ct.mk P' C.pin).P a = some u from sK a u hk] at this
        cases this
      · refine hb.run ⟨P', C.pin⟩ W _ ρ4 σ5 H' Fs5 tk E5 ?_
        cases hbo : t ρ4 with
        | nx ρ6 => rw [hbo] at h3; exact fun H6 σ6 Fs6 E6 => ⟨hlt, ρ6, Fs6, E6, h3⟩
        | ct ρ6 => rw [hbo] at h3; exact fun H6 σ6 Fs6 E6 => ⟨hlt, ρ6, Fs6, E6, h3⟩
        | bk ρ6 => rw [hbo] at h3; exact h3
        | rt d ρ6 => rw [hbo] at h3; exact h3
        | ex x ρ6 => rw [hbo] at h3; exact h3
        | bad => rw [hbo] at h3; exact h3
  · have e : i = ds.length := by omega
    subst e
    refine .inl ⟨io.stop _ H3 sK3 (Nat.le_refl _), ?_⟩
    rw [List.drop_length] at h3
    exact h3 H3 σ3 Fs3 E3
/-- over a fresh list -/
def sForX (s : SX) (g : SG) (body : SS) : SS := fun ρ => match s ρ with
  | .ok (.lst ds) none ρ1 => loopS g body ds ρ1
  | .ex z ρ1 => .ex z ρ1
  | _ => .bad
theorem dForX {is : List Nat} {tg iter : Expr} {g : SG} (hp : PassesOwn (model X.prog X.w) X.A X.env X.xe) (hc : X.calm = true) (hi : PX X iter sx) (hg : PGd X tg is g) (hb : PSsd X sts t)
    (hs : ∀ x, foldedSetIterable iter X.env x = pure x := by intro _; rfl) : PSd X (.For tg iter sts [] pos) (sForX sx g t) := by
  refine ⟨fun C W Z ρ σ H Fs tk E h => WS.of (ps_for hp hc (pi_list (we X iter)) (wg tg) (wss X sts) hs) ?_⟩
  unfold sForX at h
  refine hi.run C W ρ σ H Fs _ tk E ?_
  cases h1 : sx ρ with
  | bad => rw [h1] at h; exact h.elim
  | ex z ρ1 => rw [h1] at h; exact fun H' Fs' cls dd E' xr => h H' σ Fs' cls dd E' xr
  | ok d k ρ1 =>
    rw [h1] at h
    intro v H1 F Fs1 E1 sh r
    cases d with
    | lst ds =>
      cases k with
      | some R => exact h.elim
      | none =>
        obtain ⟨⟨a, vs, G, rfl, hr, hl, rfl⟩, nd, fr⟩ := r
        have rW := Reps.weak (o := false) ds vs G hr
        have st : ∀ H', Same (keepH H1 (a :: G)) H' → SqL X.K H' a vs ∧ Reps X.K H' false ds vs G := fun H' s =>
          ⟨SqL.of (by rw [keepH_at s List.mem_cons_self hl trivial]; exact hl), reps_keep s (fun b hb => List.mem_cons_of_mem _ hb) rW⟩
        refine ⟨a, rfl, ⟨vs, SqL.of hl⟩, loop_go (F := a :: G) hg hb tk E1 (fun i d m hh _ x hx hm => (fr x hm).2 i d m hh hx) (fun x hx => ?_) ⟨fun i H' s hi => ?_, fun i H' x H2 d s hd hy => ?_, fun i H' s hi => ?_⟩ h⟩
        · rcases List.mem_cons.mp hx with rfl | hx
          · exact ⟨_, hl, trivial⟩
          · exact Reps.tr ds vs G hr x hx
        · obtain ⟨h2, r3⟩ := st H' s
          have hlt : i < vs.length := by rw [Reps.len r3]; exact hi
          exact ⟨vs, vs[i], h2, List.getElem?_eq_getElem hlt⟩
        · obtain ⟨h2, r3⟩ := st H' s
          obtain ⟨rfl, hx⟩ := hy
          obtain ⟨w, G', e1, r4, sub⟩ := Reps.get r3 hd
          have := hx vs h2
          rw [e1] at this
          cases this
          exact ⟨Same.refl _, G', fun b hb => List.mem_cons_of_mem _ (sub.subset hb), r4⟩
        · obtain ⟨h2, r3⟩ := st H' s
          exact ⟨vs, h2, by rw [Reps.len r3]; exact hi⟩
    | _ => exact h.elim
/-! ### deep equality -/
mutual
def py : D → Option PyData
  | .non => some .none
  | .bl b => some (.bool b)
  | .int i => some (.int i)
  | .str x => some (.str x)
  | .tup ds => (match pys ds with | some l => some (.tuple l) | none => none)
  | .lst ds => (match pys ds with | some l => some (.list l) | none => none)
  | .rol ds => (match pys ds with | some l => some (.list l) | none => none)
  | _ => none
def pys : List D → Option (List PyData)
  | [] => some []
  | d :: ds => (match py d, pys ds with | some x, some l => some (x :: l) | _, _ => none)
end
mutual
theorem py_dp {o : Bool} : ∀ (d : D) (x : PyData) (v : V) (F : List Addr), py d = some x → Rep K H o d v F → Dp K H v x
  | .non, x, v, F, h, r => by cases h; rw [r.1]; exact .non
  | .bl b, x, v, F, h, r => by cases h; rw [r.1]; exact .bl b
  | .int i, x, v, F, h, r => by cases h; rw [r.1]; exact .int i
  | .str z, x, v, F, h, r => by cases h; rw [r.1]; exact .str z
  | .tup ds, x, v, F, h, r => by
    unfold py at h
    cases hl : pys ds with
    | none => rw [hl] at h; cases h
    | some l =>
      rw [hl] at h
      cases h
      obtain ⟨a, vs, rfl, hs, hr⟩ := r
      exact .tup (SqT.of hs) (pys_dp ds l vs F hl hr)
  | .lst ds, x, v, F, h, r => by
    unfold py at h
    cases hl : pys ds with
    | none => rw [hl] at h; cases h
    | some l =>
      rw [hl] at h
      cases h
      obtain ⟨a, vs, G, rfl, hr, hs, _⟩ := r
      exact .lst (SqL.of hs) (pys_dp ds l vs G hl hr)
  | .rol ds, x, v, F, h, r => by
    unfold py at h
    cases hl : pys ds with
    | none => rw [hl] at h; cases h
    | some l =>
      rw [hl] at h
      cases h
      obtain ⟨a, vs, rfl, hs, hr⟩ := r
      exact .lst hs.sq (pys_dp ds l vs F hl hr)
  | .dK _ _, x, v, F, h, r => by unfold py at h; cases h
  | .dT _ _, x, v, F, h, r => by unfold py at h; cases h
  | .cot _, x, v, F, h, r => by unfold py at h; cases h
  | .exc _ _ _, x, v, F, h, r => by unfold py at h; cases h
  | .opq _, x, v, F, h, r => by unfold py at h; cases h
theorem pys_dp {o : Bool} : ∀ (ds : List D) (l : List PyData) (vs : List V) (F : List Addr), pys ds = some l → Reps K H o ds vs F → DpAll K H vs l
  | [], l, vs, F, h, r => by
    unfold pys at h
    cases h
    rw [r.1]
    exact .nil
  | d :: ds, l, vs, F, h, r => by
    unfold pys at h
    cases h1 : py d with
    | none => rw [h1] at h; cases h
    | some x =>
      cases h2 : pys ds with
      | none => rw [h1, h2] at h; cases h
      | some l2 =>
        rw [h1, h2] at h
        cases h
        obtain ⟨v, ws, G1, G2, rfl, _, h3, h4⟩ := r
        exact .cons (py_dp d x v G1 h1 h3) (pys_dp ds l2 ws G2 h2 h4)
end
def eqOk (d e : PyData) : Bool := okP (SeqAt.shaped d = true ∧ SeqAt.shaped e = true)
def fEqD : D → D → Option D := fun x y => match py x, py y with
  | some d, some e => if eqOk d e = true then some (.bl (PyData.eqv d e)) else none
  | _, _ => none
def fNeD : D → D → Option D := fun x y => match py x, py y with
  | some d, some e => if eqOk d e = true then some (.bl (!PyData.eqv d e)) else none
  | _, _ => none
theorem oEqD (hu : X.A.units + 64 < cLine) : OpD X (compareOp .Eq) fEqD := by
  refine ⟨_, op_eqD hu, fun x y z h => ?_⟩
  unfold fEqD at h
  cases h1 : py x with
  | none => rw [h1] at h; cases h
  | some d =>
    cases h2 : py y with
    | none => rw [h1, h2] at h; cases h
    | some e =>
      rw [h1, h2] at h
      by_cases hk : eqOk d e = true
      · simp only [hk, if_true] at h
        obtain ⟨k1, k2⟩ := okP_iff.mp hk
        cases h
        exact ⟨rfl, fun H v u F G Q r1 r2 q => ⟨d, e, py_dp x d v F h1 r1, py_dp y e u G h2 r2, k1, k2, q _ H (Same.refl H) ⟨rfl, rfl⟩⟩⟩
      · simp only [hk] at h
        cases h
theorem oNeD (hu : X.A.units + 64 < cLine) : OpD X (compareOp .NotEq) fNeD := by
  refine ⟨_, op_neD hu, fun x y z h => ?_⟩
  unfold fNeD at h
  cases h1 : py x with
  | none => rw [h1] at h; cases h
  | some d =>
    cases h2 : py y with
    | none => rw [h1, h2] at h; cases h
    | some e =>
      rw [h1, h2] at h
      by_cases hk : eqOk d e = true
      · simp only [hk, if_true] at h
        obtain ⟨k1, k2⟩ := okP_iff.mp hk
        cases h
        exact ⟨rfl, fun H v u F G Q r1 r2 q => ⟨d, e, py_dp x d v F h1 r1, py_dp y e u G h2 r2, k1, k2, q _ H (Same.refl H) ⟨rfl, rfl⟩⟩⟩
      · simp only [hk] at h
        cases h
/-! ### x += y, x -= y, numbers -/
def sAug (i : Nat) (f : Int → Int → Int) (s : SX) : SS := fun ρ => match ρ[i]? with
  | some (some (.int n, _)) => (match s ρ with
    | .ok (.int j) _ ρ1 => (match setS i (.int (f n j)) none ρ1 with
      | some ρ2 => .nx ρ2
      | none => .bad)
    | .ex z ρ1 => .ex z ρ1
    | _ => .bad)
  | _ => .bad
theorem dAug {op : Operator} {f : Int → Int → Int} (i : Nat) {x : Str} {pos' : Pos} (ip : PIp X op (ipI f)) (he : PX X e sx) (hN : X.N.Nodup) (hi : X.N[i]? = some x := by rfl) (hx : Loc X.env.scope x := by first | exact Or.inl rfl | exact Or.inr rfl) (hf : X.fn x = true ∨ X.env.scope.names.lookup x = some .local := by first | exact .inl rfl | exact .inr rfl) :
    PSd X (.AugAssign (.Name x pos') op e pos) (sAug i f sx) := by
  refine ⟨fun C W Z ρ σ H Fs tk E h => WS.of (ps_aug hN hi hx (we X e) ip hf) ?_⟩
  unfold sAug at h
  cases h0 : ρ[i]? with
  | none => simp only [h0] at h; exact h.elim
  | some q0 =>
    cases q0 with
    | none => simp only [h0] at h; exact h.elim
    | some q =>
      obtain ⟨d0, m⟩ := q
      cases d0 with
      | int n =>
        simp only [h0] at h
        obtain ⟨v, hv, r0⟩ := E.rep i _ m h0
        have ev : v = .int n := r0.1
        subst ev
        refine ⟨_, hv, he.run C W ρ σ H Fs _ tk E ?_⟩
        cases h1 : sx ρ with
        | bad => simp only [h1] at h; exact h.elim
        | ex z ρ1 => simp only [h1] at h; exact fun H' Fs' cls dd E' xr => h H' σ Fs' cls dd E' xr
        | ok d k ρ1 =>
          intro u H1 F Fs1 E1 sh r
          cases d with
          | int j =>
            simp only [h1] at h
            cases h2 : setS i (.int (f n j)) none ρ1 with
            | none => simp only [h2] at h; exact h.elim
            | some ρ2 =>
              simp only [h2] at h
              obtain ⟨_, Fs2, E2⟩ := setS_ok (k := none) (d := .int (f n j)) (v := .int (f n j)) (F := []) E1 ⟨⟨rfl, rfl⟩, List.nodup_nil, fun a ha => by cases ha⟩ h2
              exact ⟨n, j, rfl, r.rep.1, h H1 _ Fs2 E2⟩
          | _ => simp only [h1] at h; exact h.elim
      | _ => simp only [h0] at h; exact h.elim
theorem dAdd1 (i : Nat) {x : Str} {pos' : Pos} (he : PX X e sx) (hN : X.N.Nodup) (hi : X.N[i]? = some x := by rfl) (hx : Loc X.env.scope x := by first | exact Or.inl rfl | exact Or.inr rfl) (hf : X.fn x = true ∨ X.env.scope.names.lookup x = some .local := by first | exact .inl rfl | exact .inr rfl) :
    PSd X (.AugAssign (.Name x pos') .Add e pos) (sAug i (fun m n => m + n) sx) := dAug i ip_add he hN hi hx hf
theorem dSub1 (i : Nat) {x : Str} {pos' : Pos} (he : PX X e sx) (hN : X.N.Nodup) (hi : X.N[i]? = some x := by rfl) (hx : Loc X.env.scope x := by first | exact Or.inl rfl | exact Or.inr rfl) (hf : X.fn x = true ∨ X.env.scope.names.lookup x = some .local := by first | exact .inl rfl | exact .inr rfl) :
    PSd X (.AugAssign (.Name x pos') .Sub e pos) (sAug i (fun m n => m - n) sx) := dAug i ip_sub he hN hi hx hf
end
end DL
end DLsec20
set_option maxRecDepth 100000
noncomputable section DLsec21
/-! DL21: str of a text, a < b < c, range as a list, reversed, sorted numbers. -/
namespace DL
open PySem PySem.Spec PyProof.Rows L2
section
variable {X : Cx} {C : Ct} {ρ ρ1 ρ2 : DEnv} {σ : L2.St} {H H1 H2 : Hp} {Fs Fs1 Fs2 : Nat → List Addr} {a b c e : Expr} {es : List Expr} {sx sb : SX} {s sa sc : SE} {W : WX} {pos p : Pos} {K : PySem.W.Frag}
/-- str(x), x a number or a text -/
def gStrA : List D → Option D
  | [.int i] => if okP (i.natAbs.log2 < 1920) = true then some (.str (toString i)) else none
  | [.str x] => some (.str x)
  | _ => none
theorem oStrA : CaD X (.type "str") gStrA := by
  refine ⟨_, CallR.or call_str_int SkE.call_str_str, fun ds z h => ?_⟩
  unfold gStrA at h
  split at h
  · rename_i i
    by_cases hi : okP (i.natAbs.log2 < 1920) = true
    · rw [if_pos hi] at h
      cases h
      refine ⟨rfl, fun H vs F Q r q => ?_⟩
      obtain ⟨v, rfl, rfl, _⟩ := reps1 r
      exact .inl ⟨i, rfl, okP_iff.mp hi, q _ H (Same.refl H) ⟨rfl, rfl⟩⟩
    · rw [if_neg hi] at h
      cases h
  · cases h
    refine ⟨rfl, fun H vs F Q r q => ?_⟩
    obtain ⟨v, rfl, rfl, _⟩ := reps1 r
    exact .inr ⟨_, rfl, q _ H (Same.refl H) ⟨rfl, rfl⟩⟩
  · cases h
/-! ### a < b < c -/
def sChn (f g : D → D → Option D) (sa sb sc : SE) : SE := fun ρ => match sa ρ, sb ρ with
  | some (x, _), some (y, _) => (match f x y with
    | some (.bl true) => (match sc ρ with
      | some (z, _) => (match g y z with
        | some w => some (w, none)
        | none => none)
      | none => none)
    | some (.bl false) => some (.bl false, none)
    | _ => none)
  | _, _ => none
theorem dChn {op op' : CmpOp} {f g : D → D → Option D} {sb : SE} (o : OpD X (compareOp op) f) (o' : OpD X (compareOp op') g) (ha : PP X a sa) (hb : PP X b sb) (hc : PP X c sc) (hm : lastMarks [op, op'] [b, c] = false := by with_unfolding_all rfl) :
    PP X (.Compare a [op, op'] [b, c] pos) (sChn f g sa sb sc) := by
  obtain ⟨r, hr, hf⟩ := o
  obtain ⟨r', hr', hg⟩ := o'
  refine ⟨fun C ρ σ H Fs d k Q E h q => WE.of (pe_chain hr hr' (we X a) (we X b) (we X c) hm) ?_⟩
  unfold sChn at h
  cases h1 : sa ρ with
  | none => rw [h1] at h; cases h
  | some p1 =>
    obtain ⟨x, kx⟩ := p1
    cases h2 : sb ρ with
    | none => rw [h1, h2] at h; cases h
    | some p2 =>
      obtain ⟨y, ky⟩ := p2
      rw [h1, h2] at h
      simp only at h
      refine two ha hb E h1 h2 fun v u H' F G s r1 r2 _ => ?_
      cases h3 : f x y with
      | none => simp only [h3] at h; cases h
      | some z0 =>
        obtain ⟨im, go⟩ := hf x y z0 h3
        cases z0 with
        | bl t =>
          cases t with
          | false =>
            simp only [h3] at h
            cases h
            refine go H' v u F G _ r1.rep r2.rep fun w H2 s2 rw => ⟨false, rw.1, ?_⟩
            rw [if_neg (by decide)]
            exact q _ H2 [] (s.trans s2) ⟨⟨rfl, rfl⟩, List.nodup_nil, fun a ha => by cases ha⟩
          | true =>
            simp only [h3] at h
            cases h4 : sc ρ with
            | none => simp only [h4] at h; cases h
            | some p3 =>
              obtain ⟨z, kz⟩ := p3
              simp only [h4] at h
              cases h5 : g y z with
              | none => simp only [h5] at h; cases h
              | some w0 =>
                simp only [h5] at h
                cases h
                obtain ⟨im2, go2⟩ := hg y z _ h5
                refine go H' v u F G _ r1.rep r2.rep fun w H2 s2 rw0 => ⟨true, rw0.1, ?_⟩
                rw [if_pos rfl]
                refine hc.run C ρ σ H2 Fs z kz _ (E.same (s.trans s2)) h4 fun u2 H3 G2 s3 r3 => ?_
                exact go2 H3 u u2 G G2 _ ((r2.rep.same s2).same s3) r3.rep fun w2 H4 s4 rw4 => q w2 H4 [] (((s.trans s2).trans s3).trans s4) (RepR.of_im im2 rw4)
        | _ => simp only [h3] at h; cases h
/-! ### ranges -/
structure PPR (X : Cx) (e : Expr) (s : DEnv → Option (Int × Int)) : Prop where
  run : ∃ t, PRg X e t ∧ ∀ (C : Ct) (ρ : DEnv) (σ : L2.St) (H : Hp) (Fs : Nat → List Addr) (i j : Int) (Q : Int → Int → Hp → Prop), EnvOk X.K C H ρ σ Fs → s ρ = some (i, j) → (∀ H', Same H H' → Q i j H') → t σ H Q
def sRg1 (s : SE) : DEnv → Option (Int × Int) := fun ρ => match s ρ with
  | some (.int n, _) => some (0, n)
  | _ => none
def sRg2 (s t : SE) : DEnv → Option (Int × Int) := fun ρ => match s ρ, t ρ with
  | some (.int i, _), some (.int j, _) => some (i, j)
  | _, _ => none
theorem rg1 (hm : X.mg "range" = none) (ha : PP X a sa) (hg : Gl X "range" := by rfl) (na : starEach [a] X.env = (false, eval a X.env) :: starEach [] X.env := by rfl) : PPR X (.Call (.Name "range" p) [a] [] pos) (sRg1 sa) := by
  refine ⟨_, prg_1 hg hm (we X a) na, fun C ρ σ H Fs i j Q E h q => ?_⟩
  unfold sRg1 at h
  split at h
  · rename_i n k h1
    cases h
    exact ha.run C ρ σ H Fs _ k _ E h1 fun v H1 F s1 r1 => ⟨j, r1.rep.1, q H1 s1⟩
  · cases h
theorem rg2 {sb : SE} (hm : X.mg "range" = none) (ha : PP X a sa) (hb : PP X b sb) (hg : Gl X "range" := by rfl) (na : starEach [a, b] X.env = (false, eval a X.env) :: starEach [b] X.env := by rfl)
    (nb : starEach [b] X.env = (false, eval b X.env) :: starEach [] X.env := by rfl) (hp : (backTo pos (starEach [b] X.env)).any (·.1) = false := by rfl) : PPR X (.Call (.Name "range" p) [a, b] [] pos) (sRg2 sa sb) := by
  refine ⟨_, prg_2 hg hm (we X a) (we X b) na nb hp, fun C ρ σ H Fs i j Q E h q => ?_⟩
  unfold sRg2 at h
  split at h
  · rename_i x kx y ky h1 h2
    cases h
    exact two ha hb E h1 h2 fun v u H' F G s r1 r2 _ => ⟨i, j, r1.rep.1, r2.rep.1, q H' s⟩
  · cases h
def sLstRg (s : DEnv → Option (Int × Int)) : SE := fun ρ => match s ρ with
  | some (i, j) => if okP (RgOk i j) = true then some (.lst (rngD i (j - i).toNat), none) else none
  | none => none
theorem reps_rg {o : Bool} (i : Int) : ∀ l : List Nat, Reps K H o (l.map fun k => D.int (i + (k : Nat))) (l.map fun k => V.int (i + (k : Nat))) []
  | [] => ⟨rfl, rfl⟩
  | k :: l => ⟨_, _, [], [], rfl, rfl, ⟨rfl, rfl⟩, reps_rg i l⟩
theorem dListRg {s : DEnv → Option (Int × Int)} (hm : X.mg "list" = none) (hc : X.calm = true) (he : PPR X e s) (hg : Gl X "list" := by rfl) (na : starEach [e] X.env = (false, eval e X.env) :: starEach [] X.env := by rfl) : PP X (.Call (.Name "list" p) [e] [] pos) (sLstRg s) := by
  obtain ⟨t, ht, go⟩ := he.run
  refine ⟨fun C ρ σ H Fs d k Q E h q => WE.of (pe_listRg hc hg hm ht na) ?_⟩
  unfold sLstRg at h
  cases h1 : s ρ with
  | none => rw [h1] at h; cases h
  | some ij =>
    obtain ⟨i, j⟩ := ij
    rw [h1] at h
    by_cases hk : okP (RgOk i j) = true
    · simp only [hk, if_true] at h
      cases h
      refine go C ρ σ H Fs i j _ E h1 fun H1 s1 => ⟨okP_iff.mp hk, fun q0 hq => ?_⟩
      have r0 : RepsR X.K H H1 Fs none (rngD i (j - i).toNat) (rgV i j) [] := ⟨reps_rg i _, List.nodup_nil, fun a ha => by cases ha⟩
      exact q _ _ _ (s1.trans (same_new hq)) (r0.newL s1 hq)
    · simp only [hk] at h
      cases h
end
end DL
end DLsec21
set_option maxRecDepth 100000
noncomputable section DLsec22
/-! DL22: numbers' texts. -/
namespace DL
open PySem PySem.Spec PyProof.Rows L2 TL
/-- the text of a number -/
def numT (i : Int) : Str := Str.ofString (toString i)
theorem numT_nat (n : Nat) : (numT (n : Int)).cps.toList = numL n := tl_num n
theorem numT_neg (m : Nat) : (numT (Int.negSucc m)).cps.toList = 45 :: numL (m + 1) := by
  show (Str.ofString ("-" ++ Nat.repr (m + 1))).cps.toList = _
  rw [signs_ofString]
  show ("-" ++ Nat.repr (m + 1)).toList.map Char.toNat = _
  rw [String.toList_append, Nat.toList_repr, List.map_append]
  rfl
theorem numT_cases (i : Int) : (∃ n : Nat, i = n ∧ (numT i).cps.toList = numL n) ∨ ∃ m : Nat, i = -((m + 1 : Nat) : Int) ∧ (numT i).cps.toList = 45 :: numL (m + 1) := by
  cases i with
  | ofNat n => exact .inl ⟨n, rfl, numT_nat n⟩
  | negSucc m => exact .inr ⟨m, rfl, numT_neg m⟩
theorem numL_len60 {n : Nat} (h : n < 10 ^ 60) : (numL n).length ≤ 60 := numL_len (by decide) h
theorem numT_len {i : Int} (h : i.natAbs < 10 ^ 60) : (numT i).length ≤ 61 := by
  rw [← len_signs]
  rcases numT_cases i with ⟨n, rfl, e⟩ | ⟨m, rfl, e⟩
  · rw [e]
    have := numL_len60 (n := n) (by simpa using h)
    omega
  · rw [e, List.length_cons]
    have := numL_len60 (n := m + 1) (by omega)
    omega
/-- int(str(i)) -/
theorem int_numT {i : Int} (h : i.natAbs < 10 ^ 60) : PySem.intText? (numT i) = some i := by
  have hl := numT_len h
  rcases numT_cases i with ⟨n, rfl, e⟩ | ⟨m, rfl, e⟩
  · have := numL_len60 (n := n) (by simpa using h)
    exact int_num (by omega)
  · rw [PySem.intText_neg e (numL_digits _) (numL_ne _) (by omega)]
    congr 2
    exact congrArg _ (PySem.W.KIN.val_back (m + 1))
theorem log_small {i : Int} (h : i.natAbs < 10 ^ 60) : i.natAbs.log2 < 1920 := by
  by_cases h0 : i.natAbs = 0
  · rw [h0]; decide
  · exact Nat.lt_trans ((Nat.log2_lt h0).mpr (Nat.lt_of_lt_of_le h (by decide : 10 ^ 60 ≤ 2 ^ 200))) (by decide)
end DL
end DLsec22
set_option maxRecDepth 100000
noncomputable section DLsec23
/-! DL23: reckoning with calls that write. -/
namespace DL
open PySem PySem.Spec PyProof.Rows L2
section
variable {s sa sb : SE} {sx : SX} {ρ ρ1 ρ2 : DEnv} {i j : Int} {m n : Nat} {Φ : Out → Prop} {g : SG}
/-- what is wanted of a def's outcome: its value, its arguments behind it -/
def RtI (io : List Bool) (P : D → List D → Prop) : Out → Prop
  | .rt d ρ => ∃ us, outArgs io ρ = some us ∧ P d us
  | .nx ρ => ∃ us, outArgs io ρ = some us ∧ P .non us
  | _ => False
theorem fn_wI {N : Nat} {io : List Bool} {b : SS} {ds : List D} {P : D → List D → Prop} (h : W (RtI io P) (b (argEnv io ds ++ List.replicate (N - ds.length) none))) : ∃ us d, noEx (fnOf N io b) ds = .ok d us ∧ P d us := by
  unfold W at h
  cases e : b (argEnv io ds ++ List.replicate (N - ds.length) none) with
  | rt d ρ =>
    rw [e] at h
    obtain ⟨us, hu, hp⟩ := h
    exact ⟨us, d, fn_ok e hu, hp⟩
  | nx ρ =>
    rw [e] at h
    obtain ⟨us, hu, hp⟩ := h
    refine ⟨us, .non, ?_, hp⟩
    unfold noEx fnOf
    rw [e]
    show (match (match outArgs io ρ with | some us => FO.ok D.non us | none => .bad) with | .ex _ => FO.bad | o => o) = _
    rw [hu]
  | ct ρ => rw [e] at h; exact h.elim
  | bk ρ => rw [e] at h; exact h.elim
  | ex x ρ => rw [e] at h; exact h.elim
  | bad => rw [e] at h; exact h.elim
theorem wAsgX {d : D} {k : Kd} (h1 : sx ρ = .ok d k ρ1) (h2 : g d k ρ1 = some ρ2) (h3 : W Φ (.nx ρ2)) : W Φ (sAsg sx g ρ) := by
  unfold W at h3 ⊢
  unfold sAsg
  rw [h1]
  simp only [h2]
  exact h3
theorem io_one {i : Nat} {d d' : D} {k : Kd} {md : Md} (h : ρ[i]? = some (some (d, md))) (hm : md.o = true) : IoOk [some i] [(d', k)] ρ := by
  refine ⟨rfl, fun j i' hj => ?_⟩
  cases j with
  | succ j => simp at hj
  | zero =>
    have hj : i = i' := by simpa using hj
    subst hj
    refine ⟨fun d0 m0 h0 => ?_, fun j' hj' => ?_, fun j' d0 R hne hl => ?_⟩
    · have h0 : ρ[i]? = some (some (d0, m0)) := h0
      rw [h] at h0
      cases h0
      exact hm
    · cases j' with
      | zero => rfl
      | succ j' => simp at hj'
    · cases j' with
      | zero => exact absurd rfl hne
      | succ j' => simp at hl
theorem ex_io {fs : FS} {is : List (Option Nat)} {t : SXA} {l : List (D × Kd)} {d : D} {us : List D} (h1 : t ρ = .ok l ρ1) (h2 : IoOk is l ρ1) (h3 : fs (dsOf l) = .ok d us) : sCallIO fs is t ρ = .ok d none (ioSet is us ρ1) := by
  unfold sCallIO
  rw [h1]
  show (if okP (IoOk is l ρ1) = true then (match fs (dsOf l) with | .ok z us => EO.ok z none (ioSet is us ρ1) | _ => .bad) else .bad) = _
  rw [if_pos (okT h2), h3]
/-- a call of one argument, a name whose object is written -/
theorem ex_io1 {fs : FS} {i : Nat} {d z : D} {md : Md} {us : List D} (h : ρ[i]? = some (some (d, md))) (hm : md.o = true) (h3 : fs [d] = .ok z us) : sCallIO fs [some i] (sXV i (sA sANil)) ρ = .ok z none (ioSet [some i] us ρ) :=
  ex_io (l := [(d, kd d (some [i]))]) (by unfold sXV sA sANil; rw [h]; simp only [h]) (io_one h hm) h3
/-- an item of a slot's own list is stored -/
theorem wSetIx {i n : Nat} {ds : List D} {d : D} {kk kj : Kd} {md : Md} {s : SX} {ix : SE} {z : Int} (h1 : s ρ = .ok d kk ρ1) (h2 : ix ρ1 = some (.int z, kj)) (h3 : ρ1[i]? = some (some (.lst ds, md))) (hm : md.o = true) (hd : d.imm = true ∨ kk = none) (h4 : ixN ds.length z = some n) (h5 : W Φ (.nx (ρ1.set i (some (.lst (ds.set n d), md))))) : W Φ (sSetIx i ix s ρ) := by
  unfold W at h5 ⊢
  unfold sSetIx
  rw [h1]
  simp only [h2, h3]
  rw [if_pos (okT ⟨hm, hd⟩), h4]
  exact h5
theorem wDrop {d : D} {k : Kd} (h1 : sx ρ = .ok d k ρ1) (h3 : W Φ (.nx ρ1)) : W Φ (sDrop sx ρ) := by
  unfold W at h3 ⊢
  unfold sDrop
  rw [h1]
  exact h3
theorem ex_append {i : Nat} {ds : List D} {d : D} {k : Kd} {md : Md} (h1 : s ρ = some (d, k)) (h3 : ρ[i]? = some (some (.lst ds, md))) (hm : md.o = true) (hd : d.imm = true ∨ k = none) (hl : ds.length < 16777216) : sAppend i (sX s) ρ = .ok .non none (ρ.set i (some (.lst (ds ++ [d]), md))) := by
  unfold sAppend sX
  simp only [h3, h1]
  rw [if_pos (okT ⟨hm, hd, by rw [sLine]; exact hl⟩)]
/-- a display's items, each so -/
def EaP (t : SA) (ρ : DEnv) (P : D → Prop) (n : Nat) : Prop := ∃ l, t ρ = some l ∧ l.length = n ∧ ∀ x ∈ dsOf l, P x
variable {t : SA} {P : D → Prop}
theorem eaP_nil : EaP sANil ρ P 0 := ⟨[], rfl, rfl, fun x hx => by cases hx⟩
theorem eaP_cons (h : EvT s ρ (fun d _ => P d)) (ht : EaP t ρ P n) : EaP (sACons s t) ρ P (n + 1) := by
  obtain ⟨d, k, e, p⟩ := h
  obtain ⟨l, e2, hl, hp⟩ := ht
  refine ⟨(d, k) :: l, ea_cons e e2, by simp [hl], fun x hx => ?_⟩
  rcases List.mem_cons.mp (show x ∈ d :: dsOf l from hx) with rfl | hx
  · exact p
  · exact hp x hx
theorem et_ixL (h : EaP t ρ P n) (hi : EvT sb ρ (IsE i)) (h0 : 0 ≤ i) (h1 : i < n) (hn : n ≤ 16777216) : EvT (sIx (sLst t) sb) ρ (fun d _ => P d) := by
  obtain ⟨l, e, hl, hp⟩ := h
  exact et_at (ev_lst e (by omega)) hi h0 (by simp [dsOf, hl]; exact h1) hp
theorem et_dl (h : EaP t ρ P n) (hi : ∀ d, P d → d.imm = true) (hn : n ≤ 16777216) : EvT (sLst t) ρ (fun d k => PL_ P n d ∧ k = none) := by
  obtain ⟨l, e, hl, hp⟩ := h
  exact et_lstP e hp hi (by omega) hn
/-- a statement in the middle: of what comes behind it only this is kept -/
theorem wMid {tt : SS} (Q : DEnv → Prop) (h : W (fun o => ∃ ρ', o = .nx ρ' ∧ Q ρ') (tt ρ)) (h2 : ∀ ρ', Q ρ' → W Φ (.nx ρ')) : W Φ (tt ρ) := by
  obtain ⟨ρ', e, q⟩ := h
  unfold W
  rw [e]
  exact h2 ρ' q
/-- a loop, by the turn's number -/
theorem wForIx {it : SI} {k : Nat} {body : SS} {ds : List D} (I : Nat → DEnv → Prop) (h1 : it ρ = some (ds, none)) (h0 : I 0 ρ) (H : ∀ i (hi : i < ds.length), ∀ ρ, I i ρ → ∃ ρ1, setS k ds[i] (some []) ρ = some ρ1 ∧ W (fun o => ∃ ρ2, (o = .nx ρ2 ∨ o = .ct ρ2) ∧ I (i + 1) ρ2) (body ρ1)) (h3 : ∀ ρ', I ds.length ρ' → W Φ (.nx ρ')) : W Φ (sFor it (setS k) body ρ) := by
  obtain ⟨ρ', e, hI⟩ := loopS_ix (g := setS k) (body := body) I ds 0 ρ h0 fun i hi ρ hρ => by
    obtain ⟨ρ1, e1, ρ2, e2, hI2⟩ := H i hi ρ (by simpa using hρ)
    exact ⟨ρ1, ρ2, e1, e2, by simpa using hI2⟩
  unfold sFor
  rw [h1]
  show W Φ (loopS (setS k) body ds ρ)
  rw [e]
  exact h3 ρ' (by simpa using hI)
theorem wForRng {it : SI} {k n : Nat} {lo : Int} {body : SS} (I : Nat → DEnv → Prop) (h1 : it ρ = some (rngD lo n, none)) (h0 : I 0 ρ) (H : ∀ i, i < n → ∀ ρ, I i ρ → ∃ ρ1, setS k (.int (lo + (i : Nat))) (some []) ρ = some ρ1 ∧ W (fun o => ∃ ρ2, (o = .nx ρ2 ∨ o = .ct ρ2) ∧ I (i + 1) ρ2) (body ρ1)) (h3 : ∀ ρ', I n ρ' → W Φ (.nx ρ')) : W Φ (sFor it (setS k) body ρ) := by
  have hl : (rngD lo n).length = n := len_rng
  refine wForIx I h1 h0 (fun i hi ρ hI => ?_) fun ρ' hI => h3 ρ' (by rw [← hl]; exact hI)
  have e := rngD_get (lo := lo) (n := n) (i := i) (by omega)
  rw [List.getElem?_eq_getElem hi] at e
  rw [Option.some.inj e]
  exact H i (by omega) ρ hI
/-- a slot that may be stored -/
theorem set_any {k : Nat} {d : D} {kk : Kd} {md : Option (D × Md)} (hi : ρ[k]? = some md) (hm : ∀ d, md ≠ some (d, .arg)) (hd : d.imm = true) : setS k d kk ρ = some (ρ.set k (some (d, .own))) := by
  unfold setS
  rw [hi]
  cases md with
  | none => simp [hd]
  | some p =>
    obtain ⟨d', m⟩ := p
    cases m with
    | arg => exact absurd rfl (hm d')
    | own => simp [hd]
    | shr => simp [hd]
/-- a while that ends: a measure falls -/
theorem wWhile {c : ST} {body : SS} (I : Nat → DEnv → Prop) (hb : ∀ m ρ, I m ρ → ∃ v, TvT c ρ v ∧ (v = false → W Φ (.nx ρ)) ∧ (v = true → W (fun o => ∃ m' ρ2, m' < m ∧ (o = .nx ρ2 ∨ o = .ct ρ2) ∧ I m' ρ2) (body ρ))) : ∀ m ρ, I m ρ → W Φ (sWhile (sB c) body ρ) := by
  intro m
  induction m using Nat.strongRecOn with
  | _ m ih =>
    intro ρ hI
    obtain ⟨v, hv, h1, h2⟩ := hb m ρ hI
    have hv' : c ρ = some v := hv
    have ec : sB c ρ = .ok v ρ := by unfold sB; rw [hv']
    unfold W
    rw [sWhile_turn, ec]
    cases v with
    | false => exact h1 rfl
    | true =>
      obtain ⟨m', ρ2, hlt, ho, hI2⟩ := h2 rfl
      have := ih m' hlt ρ2 hI2
      rcases ho with ho | ho <;> (simp only [ho]; exact this)
/-- a loop over a list whose items may be parts of slots -/
theorem wForIxK {it : SI} {k : Nat} {kk : Kd} {body : SS} {ds : List D} (I : Nat → DEnv → Prop) (h1 : it ρ = some (ds, kk)) (hf : frzK kk ρ = some ρ1) (h0 : I 0 ρ1) (H : ∀ i (hi : i < ds.length), ∀ ρ, I i ρ → ∃ ρ1, setS k ds[i] (some []) ρ = some ρ1 ∧ W (fun o => ∃ ρ2, (o = .nx ρ2 ∨ o = .ct ρ2) ∧ I (i + 1) ρ2) (body ρ1)) (h3 : ∀ ρ', I ds.length ρ' → W Φ (.nx ρ')) : W Φ (sFor it (setS k) body ρ) := by
  obtain ⟨ρ', e, hI⟩ := loopS_ix (g := setS k) (body := body) I ds 0 ρ1 h0 fun i hi ρ hρ => by
    obtain ⟨ρ1, e1, ρ2, e2, hI2⟩ := H i hi ρ (by simpa using hρ)
    exact ⟨ρ1, ρ2, e1, e2, by simpa using hI2⟩
  unfold sFor
  rw [h1]
  simp only [hf]
  show W Φ (loopS (setS k) body ds ρ1)
  rw [e]
  exact h3 ρ' (by simpa using hI)
end
end DL
end DLsec23
set_option maxRecDepth 100000
noncomputable section DLsec24
/-! DL24: x[i].append(y), sorted numbers, reversed ranges and lists. -/
namespace DL
open PySem PySem.Spec PyProof.Rows L2
section
variable {X : Cx} {C : Ct} {ρ ρ1 ρ2 : DEnv} {σ : L2.St} {H H1 H2 : Hp} {Fs Fs1 Fs2 : Nat → List Addr} {a b e : Expr} {es : List Expr} {sx sb : SX} {s : SE} {t : SA} {W : WX} {pos p : Pos} {K : PySem.W.Frag}
/-- the slots outside js stay as they are -/
def Frm (js : List Nat) (ρ : DEnv) (Fs : Nat → List Addr) (H : Hp) (ρ' : DEnv) (Fs' : Nat → List Addr) (H' : Hp) : Prop := ∀ i d m, i ∉ js → Has ρ i d m → Has ρ' i d m ∧ Fs' i = Fs i ∧ ∀ a ∈ Fs i, H' a = H a
/-- an expression that writes the slots js at most -/
structure PXF (X : Cx) (e : Expr) (s : SX) (js : List Nat) : Prop where
  run : ∀ (C : Ct) (W : WX) (ρ : DEnv) (σ : L2.St) (H : Hp) (Fs : Nat → List Addr) (Q : VK), Takes X W → EnvOk X.K C H ρ σ Fs → (match s ρ with
    | .ok d k ρ' => ∀ v H' F Fs', EnvOk X.K C H' ρ' σ Fs' → Shr ρ Fs ρ' Fs' → Frm js ρ Fs H ρ' Fs' H' → RepV X.K C ρ' Fs' H' k d v F → Q v H'
    | .ex x ρ' => ∀ H' Fs' cls dd, EnvOk X.K C H' ρ' σ Fs' → XRep X.K H' x cls dd → W cls dd σ H'
    | .bad => False) → WE X e σ H Q
theorem PP.f (h : PP X e s) : PXF X e (sX s) [] := by
  refine ⟨fun C W ρ σ H Fs Q tk E hq => ?_⟩
  unfold sX at hq
  cases hs : s ρ with
  | none => rw [hs] at hq; exact hq.elim
  | some p =>
    obtain ⟨d, k⟩ := p
    rw [hs] at hq
    exact h.run C ρ σ H Fs d k Q E hs fun v H' F s1 r1 => hq v H' F Fs (E.same s1) Shr.refl (fun i d m _ hh => ⟨hh, rfl, fun a ha => by
      obtain ⟨u, eu, _⟩ := E.tr hh ha
      rw [eu]
      exact s1 a u eu⟩) (r1.inV E)
/-- pop() writes its own slot alone -/
theorem Frm.set {i : Nat} {d d' : D} {m : Md} {F : List Addr} (hh : Has ρ i d m) (hm : m.o = true) (E : EnvOk K C H ρ σ Fs) (hH : ∀ x, x ∉ Fs i → H2 x = H x) : Frm [i] ρ Fs H (ρ.set i (some (d', m))) (fun j => if j = i then F else Fs j) H2 := fun j e n hj hje => by
  have hji : j ≠ i := fun z => hj (by simp [z])
  refine ⟨?_, by simp [hji], fun a ha => hH a fun z => E.dis i j d m e n (Ne.symm hji) hh hm hje a z ha⟩
  show (ρ.set i _)[j]? = _
  rw [List.getElem?_set_ne (Ne.symm hji)]
  exact hje
theorem xPopF (i : Nat) {x : Str} {apos cpos npos : Pos} (hN : X.N[i]? = some x := by rfl) (hv : Vis X.env.scope x := by first | exact Or.inl rfl | exact Or.inr (Or.inl rfl) | exact Or.inr (Or.inr rfl)) (hd : (x == ("__debug__" : Str)) = false := by decide)
    (hcd : (x == ("__classdict__" : Str)) = false := by decide) (hbase : attributeBase (.Name x npos) "pop" X.env (eval (.Name x npos) X.env) = eval (.Name x npos) X.env := by rfl) (hline : (apos.endLine == cpos.line) = true := by rfl) :
    PXF X (.Call (.Attribute (.Name x npos) "pop" apos) [] [] cpos) (sPop i) [i] := by
  refine ⟨fun C W ρ σ H Fs Q tk E h => WE.of (pe_bm0 PySem.F.plainAttrs_list PySem.F.slot_list_pop PySem.F.type_list_pop mt_pop (pe_var hN hv hd hcd) hbase hline) ?_⟩
  unfold sPop at h
  cases h0 : ρ[i]? with
  | none => simp only [h0] at h
  | some q0 =>
    cases q0 with
    | none => simp only [h0] at h
    | some q =>
      obtain ⟨d0, m⟩ := q
      cases d0 with
      | lst ds =>
        simp only [h0] at h
        by_cases hk : okP (m.o = true ∧ ds ≠ []) = true
        · simp only [hk, if_true] at h
          obtain ⟨hm, hne⟩ := okP_iff.mp hk
          obtain ⟨p, vs, G, hp, hl, hr, eF, ha, nd, wr⟩ := E.lst h0 hm
          obtain ⟨u, G1, G2, e1, e2, e3, e4⟩ := Reps.last hr hne
          rw [e2] at nd
          obtain ⟨nd1, nd2, dis⟩ := List.nodup_append.mp nd
          have E3 := wr ds.dropLast vs.dropLast G1 e3 nd1 fun x hx => .inl (by rw [e2]; exact List.mem_append_left _ hx)
          have haG2 : p ∉ G2 := fun z => ha (by rw [e2]; exact List.mem_append_right _ z)
          refine ⟨.ref p, hp, .inl ⟨rfl, vs, SqL.of hl⟩, p, vs, u, rfl, rfl, hl, e1, ?_⟩
          refine h u _ G2 _ E3 (Shr.set h0 hm) (Frm.set h0 hm E fun x hx => upd_ne fun z => hx (by rw [eF, z]; exact List.mem_cons_self)) ⟨Rep.kp (Kp.upd hl trivial) _ _ _ e4 fun x hx => upd_ne (fun z => haG2 (z ▸ hx)), nd2, fun x hx => ⟨?_, fun j e n hj hmm => ?_⟩⟩
          · exact (E.nd i _ m h0 hm).2 x (by rw [eF, e2]; exact List.mem_cons_of_mem _ (List.mem_append_right _ hx))
          · by_cases hji : j = i
            · subst hji
              simp only [if_true] at hmm
              rcases List.mem_cons.mp hmm with rfl | hmm
              · exact haG2 hx
              · exact dis x hmm x hx rfl
            · simp only [hji, if_false] at hmm
              have hj' : Has ρ j e n := by
                have hj : (ρ.set i (some (D.lst ds.dropLast, m)))[j]? = some (some (e, n)) := hj
                rw [List.getElem?_set_ne (Ne.symm hji)] at hj
                exact hj
              exact E.dis i j _ m e n (Ne.symm hji) h0 hm hj' x (by rw [eF, e2]; exact List.mem_cons_of_mem _ (List.mem_append_right _ hx)) hmm
        · simp only [hk] at h
          exact h.elim
      | _ => simp only [h0] at h
/-- one item of several, the others left alone -/
theorem Reps.mid {o : Bool} : ∀ {n : Nat} {ds : List D} {vs : List V} {F : List Addr} {d : D}, Reps K H o ds vs F → ds[n]? = some d → ∃ A B D' w, F = A ++ B ++ D' ∧ vs[n]? = some w ∧ Rep K H o d w B ∧ ∀ {H' : Hp} {y : D} {u : V} {G : List Addr}, Kp H H' → (∀ x ∈ A ++ D', H' x = H x) → Rep K H' o y u G → Reps K H' o (ds.set n y) (vs.set n u) (A ++ G ++ D')
  | n, [], _, _, _, _, e => by simp at e
  | 0, d :: ds, vs, F, d0, r, e => by
    obtain ⟨v, ws, G1, G2, rfl, rfl, h3, h4⟩ := r
    have e : d = d0 := by simpa using e
    subst e
    exact ⟨[], G1, G2, v, by simp, rfl, h3, fun {H' y u G} kp hx ry => ⟨u, ws, G, G2, rfl, by simp, ry, Reps.kp kp ds ws G2 h4 fun x hxx => hx x (by simpa using hxx)⟩⟩
  | n + 1, d :: ds, vs, F, d0, r, e => by
    obtain ⟨v, ws, G1, G2, rfl, rfl, h3, h4⟩ := r
    obtain ⟨A, B, D', w, e1, e2, e3, e4⟩ := Reps.mid h4 (show ds[n]? = some d0 by simpa using e)
    refine ⟨G1 ++ A, B, D', w, by rw [e1]; simp [List.append_assoc], by simpa using e2, e3, fun {H' y u G} kp hx ry => ⟨v, ws.set n u, G1, A ++ G ++ D', rfl, by simp [List.append_assoc], Rep.kp kp d v G1 h3 fun x hxx => hx x ?_, e4 kp (fun x hxx => hx x ?_) ry⟩⟩
    · simp [hxx]
    · rcases List.mem_append.mp hxx with h | h <;> simp [h]
/-! ### x[i].append(y) -/
def sAppendAt (i : Nat) (js : List Nat) (ix : SE) (sb : SX) : SX := fun ρ => match ix ρ, ρ[i]? with
  | some (.int z, _), some (some (.lst ds, m)) => (match ixN ds.length z with
    | some n => (match ds[n]? with
      | some (.lst es) => (match sb ρ with
        | .ok y ky ρ2 => if okP (m.o = true ∧ (y.imm = true ∨ ky = none) ∧ es.length < sizeLine ∧ i ∉ js) = true then .ok .non none (ρ2.set i (some (.lst (ds.set n (.lst (es ++ [y]))), m))) else .bad
        | .ex x ρ2 => .ex x ρ2
        | .bad => .bad)
      | _ => .bad)
    | none => .bad)
  | _, _ => .bad
theorem xAppendAt (i : Nat) {js : List Nat} {x : Str} {ix : Expr} {six : SE} {apos cpos npos spos : Pos} (hi : PP X ix six) (hb : PXF X b sb js) (hN : X.N[i]? = some x := by rfl) (hv : Vis X.env.scope x := by first | exact Or.inl rfl | exact Or.inr (Or.inl rfl) | exact Or.inr (Or.inr rfl)) (hd : (x == ("__debug__" : Str)) = false := by decide)
    (hcd : (x == ("__classdict__" : Str)) = false := by decide) (hp : PlainIx ix := by exact fun _ _ => rfl) (hbase : attributeBase (.Subscript (.Name x npos) ix spos) "append" X.env (eval (.Subscript (.Name x npos) ix spos) X.env) = eval (.Subscript (.Name x npos) ix spos) X.env := by rfl) (hline : (apos.endLine == cpos.line) = true := by rfl)
    (hfew : ((backTo cpos (starEach [b] X.env)).all (fun x => !x.1) && (backToKw cpos (keywordEach [] X.env)).all (fun x => x.1.isSome)
      && decide ([b].length + ([] : List Keyword).length + (if ([] : List Keyword).isEmpty then 0 else 1) < 30)) = true := by rfl)
    (hs : starEach [b] X.env = (false, eval b X.env) :: starEach [] X.env := by rfl) (hplain : (backTo cpos (starEach ([] : List Expr) X.env)).any (·.1) = false := by rfl) :
    PX X (.Call (.Attribute (.Subscript (.Name x npos) ix spos) "append" apos) [b] [] cpos) (sAppendAt i js six sb) := by
  refine ⟨fun C W ρ σ H Fs Q tk E h => WE.of (pe_bm PySem.F.plainAttrs_list PySem.F.slot_list_append PySem.F.type_list_append mt_append (pe_ix ix_seq (pe_var hN hv hd hcd) (we X ix) hp) (pa_cons (we X b) pa_nil hs) hbase hfew hline hs hplain) ?_⟩
  unfold sAppendAt at h
  cases h1 : six ρ with
  | none => simp only [h1] at h
  | some q =>
    obtain ⟨dz, kz⟩ := q
    cases dz with
    | int z =>
      cases h0 : ρ[i]? with
      | none => simp only [h1, h0] at h
      | some q0 =>
        cases q0 with
        | none => simp only [h1, h0] at h
        | some q =>
          obtain ⟨d0, m⟩ := q
          cases d0 with
          | lst ds =>
            simp only [h1, h0] at h
            cases h2 : ixN ds.length z with
            | none => simp only [h2] at h
            | some n =>
              simp only [h2] at h
              cases h3 : ds[n]? with
              | none => simp only [h3] at h
              | some dn =>
                cases dn with
                | lst es =>
                  simp only [h3] at h
                  obtain ⟨p, vs0, hp0, hl0⟩ := var_lst E h0
                  refine ⟨.ref p, hp0, hi.run C ρ σ H Fs _ _ _ E h1 fun w H1 F1 s1 r1 => ?_⟩
                  have E1 := E.same s1
                  have hw : w = .int z := r1.rep.1
                  obtain ⟨v0, hv0, r0⟩ := E1.rep i _ m h0
                  obtain ⟨p1, vs, G, ep, hr, hl, eF⟩ := r0
                  rw [hp0] at hv0
                  cases hv0
                  cases ep
                  obtain ⟨A, B, D', wn, e1, e2, e3, e4⟩ := Reps.mid hr h3
                  obtain ⟨bn, ws, G3, rfl, hrn, hln, rfl⟩ := e3
                  have hat : atI vs z = some (.ref bn) := by
                    unfold atI
                    rw [Reps.len hr, h2]
                    exact e2
                  refine .inl ⟨p, vs, z, .ref bn, rfl, hw, SqL.of hl, hat, .inl ⟨rfl, ws, SqL.of hln⟩, hb.run C W ρ σ H1 Fs _ tk E1 ?_⟩
                  cases h4 : sb ρ with
                  | bad => simp only [h4] at h
                  | ex x ρ2 => simp only [h4] at h; exact h
                  | ok y ky ρ2 =>
                    intro u H2 F2 Fs2 E2 sh fr ru
                    simp only [h4] at h
                    by_cases hk : okP (m.o = true ∧ (y.imm = true ∨ ky = none) ∧ es.length < sizeLine ∧ i ∉ js) = true
                    · simp only [hk, if_true] at h
                      obtain ⟨hm, hy, hz, hij⟩ := okP_iff.mp hk
                      obtain ⟨Gy, ry⟩ := ru.norm hy
                      obtain ⟨hh2, eF2, keep⟩ := fr i _ m hij h0
                      obtain ⟨a', vs', G', hσ, hl', hr', eF', ha', nd', _⟩ := E2.lst hh2 hm
                      rw [hp0] at hσ
                      cases hσ
                      have hkp := keep p (by rw [eF]; exact List.mem_cons_self)
                      rw [hl', hl] at hkp
                      cases hkp
                      obtain ⟨A2, B2, D2, w2, g1, g2, g3, g4⟩ := Reps.mid hr' h3
                      rw [e2] at g2
                      cases g2
                      obtain ⟨bn2, ws2, G4, eb, hrn2, hln2, rfl⟩ := g3
                      cases eb
                      have kp : Kp H2 (upd H2 bn (.lst (ws2 ++ [u]))) := Kp.upd hln2 trivial
                      rw [g1] at nd'
                      obtain ⟨ndAB, ndD, q1⟩ := List.nodup_append.mp nd'
                      obtain ⟨ndA, ndB, q2⟩ := List.nodup_append.mp ndAB
                      obtain ⟨nb, nG4⟩ := List.nodup_cons.mp ndB
                      have bG : bn ∈ G' := by rw [g1]; exact List.mem_append_left _ (List.mem_append_right _ List.mem_cons_self)
                      have hGy : ∀ x ∈ G', x ∉ Gy := fun x hx hy => (ry.2.2 x hy).2 i _ m hh2 (by rw [eF']; exact List.mem_cons_of_mem _ hx)
                      have hG4 : ∀ x ∈ G4, x ∈ G' := fun x hx => by rw [g1]; exact List.mem_append_left _ (List.mem_append_right _ (List.mem_cons_of_mem _ hx))
                      have hA : ∀ x ∈ A2, x ∈ G' := fun x hx => by rw [g1]; exact List.mem_append_left _ (List.mem_append_left _ hx)
                      have hD : ∀ x ∈ D2, x ∈ G' := fun x hx => by rw [g1]; exact List.mem_append_right _ hx
                      have rn : Rep X.K (upd H2 bn (.lst (ws2 ++ [u]))) true (.lst (es ++ [y])) (.ref bn) (bn :: (G4 ++ Gy)) := by
                        refine ⟨bn, ws2 ++ [u], G4 ++ Gy, rfl, Reps.kp kp _ _ _ (Reps.app hrn2 (Reps.one ry.1)) fun x hx => upd_ne fun z => ?_, upd_same, rfl⟩
                        rw [z] at hx
                        rcases List.mem_append.mp hx with h | h
                        · exact nb h
                        · exact hGy bn bG h
                      have rs := g4 kp (fun x hx => upd_ne fun z => by
                        rw [z] at hx
                        rcases List.mem_append.mp hx with h | h
                        · exact q2 bn h bn List.mem_cons_self rfl
                        · exact q1 bn (List.mem_append_right _ List.mem_cons_self) bn h rfl) rn
                      have hset : vs.set n (.ref bn) = vs := by
                        refine List.ext_getElem? fun k => ?_
                        by_cases hk : k = n
                        · subst hk
                          rw [List.getElem?_set_self (List.getElem?_eq_some_iff.mp e2).1]
                          exact e2.symm
                        · rw [List.getElem?_set_ne (Ne.symm hk)]
                      rw [hset] at rs
                      have pG : p ≠ bn := fun z => ha' (z ▸ bG)
                      have E3 := E2.wr (F := p :: (A2 ++ (bn :: (G4 ++ Gy)) ++ D2)) (d' := .lst (ds.set n (.lst (es ++ [y])))) hh2 hm kp (fun c o ec hc => by
                        rw [upd_ne]
                        · exact ec
                        · rintro rfl
                          exact hc (by rw [eF']; exact List.mem_cons_of_mem _ bG)) (fun v hv => by
                        rw [hp0] at hv
                        cases hv
                        exact ⟨p, vs, _, rfl, rs, by rw [upd_ne pG]; exact hl', rfl⟩) ?nd ?fr
                      case nd =>
                        refine List.nodup_cons.mpr ⟨fun z => ?_, List.nodup_append.mpr ⟨List.nodup_append.mpr ⟨ndA, List.nodup_cons.mpr ⟨fun z => ?_, List.nodup_append.mpr ⟨nG4, ry.2.1, fun x hx z hz e => hGy x (hG4 x hx) (e ▸ hz)⟩⟩, fun x hx z hz e => ?_⟩, ndD, fun x hx z hz e => ?_⟩⟩
                        · rcases List.mem_append.mp z with z | z
                          · rcases List.mem_append.mp z with z | z
                            · exact ha' (hA _ z)
                            · rcases List.mem_cons.mp z with z | z
                              · exact pG z
                              · rcases List.mem_append.mp z with z | z
                                · exact ha' (hG4 _ z)
                                · exact (ry.2.2 p z).2 i _ m hh2 (by rw [eF']; exact List.mem_cons_self)
                          · exact ha' (hD _ z)
                        · rcases List.mem_append.mp z with z | z
                          · exact nb z
                          · exact hGy bn bG z
                        · subst e
                          rcases List.mem_cons.mp hz with hz | hz
                          · exact q2 x hx bn List.mem_cons_self hz
                          · rcases List.mem_append.mp hz with hz | hz
                            · exact q2 x hx x (List.mem_cons_of_mem _ hz) rfl
                            · exact hGy x (hA x hx) hz
                        · subst e
                          rcases List.mem_append.mp hx with hx | hx
                          · exact q1 x (List.mem_append_left _ hx) x hz rfl
                          · rcases List.mem_cons.mp hx with hx | hx
                            · exact q1 bn (List.mem_append_right _ List.mem_cons_self) x hz hx.symm
                            · rcases List.mem_append.mp hx with hx | hx
                              · exact q1 x (List.mem_append_right _ (List.mem_cons_of_mem _ hx)) x hz rfl
                              · exact hGy x (hD x hz) hx
                      case fr =>
                        intro x hx
                        rcases List.mem_cons.mp hx with rfl | hx
                        · exact .inl (by rw [eF']; exact List.mem_cons_self)
                        · have old : ∀ z, z ∈ G' → z ∈ Fs2 i := fun z hz => by rw [eF']; exact List.mem_cons_of_mem _ hz
                          rcases List.mem_append.mp hx with hx | hx
                          · rcases List.mem_append.mp hx with hx | hx
                            · exact .inl (old _ (hA _ hx))
                            · rcases List.mem_cons.mp hx with rfl | hx
                              · exact .inl (old _ bG)
                              · rcases List.mem_append.mp hx with hx | hx
                                · exact .inl (old _ (hG4 _ hx))
                                · exact .inr ⟨(ry.2.2 x hx).1, fun j e n _ hj => (ry.2.2 x hx).2 j e n hj⟩
                          · exact .inl (old _ (hD _ hx))
                      refine ⟨bn, ws2, u, rfl, rfl, hln2, by rw [Reps.len hrn2]; exact hz, ?_⟩
                      exact h .non _ [] _ E3 (sh.trans (Shr.set hh2 hm)) non_V
                    · simp only [hk] at h
                      exact h.elim
                | _ => simp only [h3] at h
          | _ => simp only [h1, h0] at h
    | _ => simp only [h1] at h
end
end DL
end DLsec24
set_option maxRecDepth 100000
noncomputable section DLsec25
/-! DL25: a def as a plain function over named values (p_*), no slots in sight: the core, expressions. -/
namespace DL
open PySem PySem.Spec PyProof.Rows L2
/-- what a plain function comes to -/
inductive R (α : Type) where
  | ok (a : α) | ex (x : Xn) | bad
section
variable {α β : Type}
def R.bnd (m : R α) (f : α → R β) : R β := match m with | .ok a => f a | .ex x => .ex x | .bad => .bad
def R.of (o : Option α) : R α := match o with | some a => .ok a | none => .bad
def R.post (m : R α) (P : α → Prop) (E : Xn → Prop) : Prop := match m with | .ok a => P a | .ex x => E x | .bad => True
def R.noex (m : R α) : R α := match m with | .ex _ => .bad | m => m
theorem post_bnd {m : R α} {f : α → R β} {P : α → Prop} {Q : β → Prop} {E E' : Xn → Prop} (h : m.post P E) (he : ∀ x, E x → E' x) (hf : ∀ a, P a → (f a).post Q E') : (m.bnd f).post Q E' := by
  cases m with
  | ok a => exact hf a h
  | ex x => exact he x h
  | bad => trivial
theorem post_of {o : Option α} {P : α → Prop} {E : Xn → Prop} (h : ∀ a, o = some a → P a) : (R.of o).post P E := by
  cases o with
  | none => trivial
  | some a => exact h a rfl
theorem post_mono {m : R α} {P Q : α → Prop} {E E' : Xn → Prop} (h : m.post P E) (hp : ∀ a, P a → Q a) (he : ∀ x, E x → E' x) : m.post Q E' := by
  cases m with
  | ok a => exact hp a h
  | ex x => exact he x h
  | bad => trivial
end
abbrev NoX : Xn → Prop := fun _ => False
theorem nox {E : Xn → Prop} : ∀ x, NoX x → E x := fun _ h => h.elim
/-! ### what a slot is known to hold -/
inductive Pt where
  | o (d : D) | s (d : D) | a (d : D) | u
def Pt.ok : Pt → Sl → Prop
  | .o d, x => x = some (d, .own)
  | .s d, x => ∃ m, x = some (d, m) ∧ m ≠ .arg
  | .a d, x => x = some (d, .arg)
  | .u, x => ∀ d, x ≠ some (d, .arg)
def Pt.val : Pt → Option D
  | .o d => some d
  | .s d => some d
  | .a d => some d
  | .u => none
def Pt.own : Pt → Option D
  | .o d => some d
  | .a d => some d
  | _ => none
def Pt.upd : Pt → D → Pt
  | .o _, d => .o d
  | .a _, d => .a d
  | p, _ => p
def Pt.na : Pt → Bool
  | .a _ => false
  | _ => true
def EPs : List Pt → DEnv → Prop
  | [], [] => True
  | p :: ps, x :: ρ => p.ok x ∧ EPs ps ρ
  | _, _ => False
theorem EPs.get : ∀ {ps : List Pt} {ρ : DEnv} {i : Nat} {p : Pt}, EPs ps ρ → ps[i]? = some p → ∃ x, ρ[i]? = some x ∧ p.ok x
  | [], _, i, p, _, e => by simp at e
  | q :: ps, [], i, p, h, e => h.elim
  | q :: ps, x :: ρ, 0, p, h, e => by
    have : q = p := by simpa using e
    subst this
    exact ⟨x, rfl, h.1⟩
  | q :: ps, x :: ρ, i + 1, p, h, e => EPs.get (i := i) h.2 (by simpa using e)
theorem EPs.set : ∀ {ps : List Pt} {ρ : DEnv} {i : Nat} {p : Pt} {x : Sl}, EPs ps ρ → p.ok x → EPs (ps.set i p) (ρ.set i x)
  | [], [], i, p, x, _, _ => trivial
  | q :: ps, [], i, p, x, h, _ => h.elim
  | [], y :: ρ, i, p, x, h, _ => h.elim
  | q :: ps, y :: ρ, 0, p, x, h, hp => ⟨hp, h.2⟩
  | q :: ps, y :: ρ, i + 1, p, x, h, hp => ⟨h.1, EPs.set h.2 hp⟩
theorem EPs.len : ∀ {ps : List Pt} {ρ : DEnv}, EPs ps ρ → ρ.length = ps.length
  | [], [], _ => rfl
  | [], y :: ρ, h => h.elim
  | q :: ps, [], h => h.elim
  | q :: ps, y :: ρ, h => by rw [List.length_cons, List.length_cons, EPs.len h.2]
section
variable {ps : List Pt} {ρ : DEnv} {i : Nat} {p : Pt} {d : D}
theorem EPs.val (h : EPs ps ρ) (e : ps[i]? = some p) (v : p.val = some d) : ∃ m, ρ[i]? = some (some (d, m)) := by
  obtain ⟨x, hx, hp⟩ := h.get e
  cases p with
  | o d' => cases v; exact ⟨_, by rw [hx, show x = _ from hp]⟩
  | s d' => cases v; obtain ⟨m, e', _⟩ := hp; exact ⟨m, by rw [hx, e']⟩
  | a d' => cases v; exact ⟨_, by rw [hx, show x = _ from hp]⟩
  | u => cases v
theorem EPs.own (h : EPs ps ρ) (e : ps[i]? = some p) (v : p.own = some d) : ∃ m, ρ[i]? = some (some (d, m)) ∧ m.o = true ∧ ∀ d', (p.upd d').ok (some (d', m)) := by
  obtain ⟨x, hx, hp⟩ := h.get e
  cases p with
  | o d' => cases v; exact ⟨_, by rw [hx, show x = _ from hp], rfl, fun _ => rfl⟩
  | s d' => cases v
  | a d' => cases v; exact ⟨_, by rw [hx, show x = _ from hp], rfl, fun _ => rfl⟩
  | u => cases v
theorem EPs.na (h : EPs ps ρ) (e : ps[i]? = some p) (v : p.na = true) : ∃ x, ρ[i]? = some x ∧ ∀ d, x ≠ some (d, .arg) := by
  obtain ⟨x, hx, hp⟩ := h.get e
  refine ⟨x, hx, ?_⟩
  cases p with
  | o d' => intro d e; rw [show x = _ from hp] at e; cases e
  | s d' => obtain ⟨m, e', hm⟩ := hp; intro d e; rw [e'] at e; cases e; exact hm rfl
  | a d' => cases v
  | u => exact hp
theorem EPs.setS (h : EPs ps ρ) (e : ps[i]? = some p) (v : p.na = true) : DL.setS i d none ρ = some (ρ.set i (some (d, .own))) := by
  obtain ⟨x, hx, hp⟩ := h.na e v
  unfold DL.setS
  rw [hx]
  cases x with
  | none => by_cases hd : d.imm = true <;> simp [hd]
  | some q =>
    obtain ⟨d', m⟩ := q
    cases m with
    | arg => exact absurd rfl (hp d')
    | own => by_cases hd : d.imm = true <;> simp [hd]
    | shr => by_cases hd : d.imm = true <;> simp [hd]
theorem frz_nil : ∀ (n : Nat) (ρ : DEnv), DL.frz [] n ρ = some ρ
  | n, [] => rfl
  | n, x :: r => by
    unfold DL.frz
    rw [frz_nil (n + 1) r]
    simp
theorem EPs.setSs (h : EPs ps ρ) (e : ps[i]? = some p) (v : p.na = true) : ∃ ρ', DL.setS i d (some []) ρ = some ρ' ∧ EPs (ps.set i (.s d)) ρ' := by
  obtain ⟨x, hx, hp⟩ := h.na e v
  have key : DL.setS i d (some []) ρ = if d.imm = true then some (ρ.set i (some (d, .own))) else some (ρ.set i (some (d, .shr))) := by
    unfold DL.setS
    rw [hx]
    cases x with
    | none => simp only [frz_nil]
    | some q =>
      obtain ⟨d', m⟩ := q
      cases m with
      | arg => exact absurd rfl (hp d')
      | own => simp only [frz_nil]
      | shr => simp only [frz_nil]
  rw [key]
  by_cases hd : d.imm = true
  · rw [if_pos hd]; exact ⟨_, rfl, h.set ⟨.own, rfl, by decide⟩⟩
  · rw [if_neg hd]; exact ⟨_, rfl, h.set ⟨.shr, rfl, by decide⟩⟩
end
/-! ### pure expressions -/
def Ee (s : SE) (ps : List Pt) (m : R D) : Prop := ∀ ρ, EPs ps ρ → m.post (fun d => ∃ k, s ρ = some (d, k)) NoX
def Ef (s : SE) (ps : List Pt) (m : R D) : Prop := ∀ ρ, EPs ps ρ → m.post (fun d => s ρ = some (d, none)) NoX
def Et (s : ST) (ps : List Pt) (m : R Bool) : Prop := ∀ ρ, EPs ps ρ → m.post (fun b => s ρ = some b) NoX
def Eo (s : DEnv → Option (Option Int)) (ps : List Pt) (m : R (Option Int)) : Prop := ∀ ρ, EPs ps ρ → m.post (fun i => s ρ = some i) NoX
def Al (t : SA) (ps : List Pt) (m : R (List D)) : Prop := ∀ ρ, EPs ps ρ → m.post (fun ds => ∃ l, t ρ = some l ∧ dsOf l = ds) NoX
/-- arguments, and of each whose it is -/
def ArgK : List (Option Nat) → List (D × Kd) → Prop
  | [], [] => True
  | v :: vs, (d, k) :: l => (match v with | none => k = none | some i => k = kd d (some [i])) ∧ ArgK vs l
  | _, _ => False
def As (t : SA) (ps : List Pt) (m : R (List D)) (vs : List (Option Nat)) : Prop := ∀ ρ, EPs ps ρ → m.post (fun ds => ∃ l, t ρ = some l ∧ dsOf l = ds ∧ ArgK vs l) NoX
def immR (m : R D) : R D := m.bnd fun d => if d.imm = true then .ok d else .bad
def D.items : D → List D
  | .lst ds => ds
  | .tup ds => ds
  | .rol ds => ds
  | _ => []
/-- its items hold nothing that may be written -/
def lfR (m : R D) : R D := m.bnd fun d => if imms d.items = true then .ok d else .bad
def op2 (f : D → D → Option D) (a b : R D) : R D := a.bnd fun x => b.bnd fun y => R.of (f x y)
def consR (a : R D) (l : R (List D)) : R (List D) := a.bnd fun x => l.bnd fun r => .ok (x :: r)
def lstR (m : R (List D)) : R D := m.bnd fun ds => if okP (ds.length ≤ sizeLine) = true then .ok (.lst ds) else .bad
def tupR (m : R (List D)) : R D := m.bnd fun ds => if okP (ds.length ≤ sizeLine) = true then .ok (.tup ds) else .bad
def tR (m : R D) : R Bool := m.bnd fun d => match d with | .bl b => .ok b | _ => .bad
def truR (m : R D) : R Bool := m.bnd fun d => R.of d.tru
def notT (m : R Bool) : R Bool := m.bnd fun b => .ok (!b)
def andT (a b : R Bool) : R Bool := a.bnd fun x => if x = true then b else .ok false
def orT (a b : R Bool) : R Bool := a.bnd fun x => if x = true then .ok true else b
def iteR {α : Type} (c : R Bool) (a b : R α) : R α := c.bnd fun x => if x = true then a else b
def andR (a b : R D) : R D := a.bnd fun d => match d with | .bl true => b | .bl false => .ok (.bl false) | _ => .bad
def orR (a b : R D) : R D := a.bnd fun d => match d with | .bl true => .ok (.bl true) | .bl false => b | _ => .bad
def notR (a : R D) : R D := a.bnd fun d => match d with | .bl b => .ok (.bl !b) | _ => .bad
def negR (a : R D) : R D := a.bnd fun d => match d with | .int i => .ok (.int (-i)) | _ => .bad
def ixD (a b : D) : Option D := match a, b with
  | .lst ds, .int i => atI ds i
  | .tup ds, .int i => atI ds i
  | .rol ds, .int i => atI ds i
  | .str z, .int i => if okP (z.length ≤ sizeLine) = true then (match atI z.cps.toList i with | some c => some (.str ⟨#[c]⟩) | none => none) else none
  | _, _ => none
def slD (d : D) (l u : Option Int) : Option D := match d with
  | .lst ds => some (.lst (cutD ds l u))
  | .rol ds => some (.lst (cutD ds l u))
  | .tup ds => some (.tup (cutD ds l u))
  | .str z => if okP (z.length ≤ sizeLine) = true then some (.str (cutS z l u)) else none
  | _ => none
def slR (a : R D) (l u : R (Option Int)) : R D := a.bnd fun d => l.bnd fun l => u.bnd fun u => R.of (slD d l u)
def oSo (m : R D) : R (Option Int) := m.bnd fun d => match d with | .int i => .ok (some i) | _ => .bad
def catD (a b : D) : Option D := match a, b with
  | .lst ds, .lst es => if okP (ds.length + es.length ≤ sizeLine) = true then some (.lst (ds ++ es)) else none
  | .tup ds, .tup es => if okP (ds.length + es.length ≤ sizeLine) = true then some (.tup (ds ++ es)) else none
  | _, _ => none
def repD (a b : D) : Option D := match a, b with
  | .lst ds, .int n => if okP (imms ds = true ∧ -(2 ^ 62) < n ∧ n < 2 ^ 62 ∧ ds.length * n.toNat ≤ sizeLine) = true then some (.lst (List.replicate n.toNat ds).flatten) else none
  | _, _ => none
def listD : D → Option D
  | .lst ds => some (.lst ds)
  | .rol ds => some (.lst ds)
  | .tup ds => some (.lst ds)
  | _ => none
def tupleD : D → Option D
  | .lst ds => some (.tup ds)
  | .rol ds => some (.tup ds)
  | .tup ds => some (.tup ds)
  | _ => none
def un1 (f : D → Option D) (a : R D) : R D := a.bnd fun x => R.of (f x)
def bltR (g : List D → Option D) (m : R (List D)) : R D := m.bnd fun ds => R.of (g ds)
def isiD (T : Ty) (d : D) : Option D := (isTy T d).map .bl
def joinD (a b : D) : Option D := match a, b with
  | .str x, .lst ds => (match strsD ds with | some ys => if joinOk x ys = true then some (.str (Str.join x ys)) else none | none => none)
  | _, _ => none
def upperD : D → Option D
  | .str x => if okP (x.length ≤ 5592405) = true then some (.str (Txt.upper x)) else none
  | _ => none
def splitD (a b : D) : Option D := match a, b with
  | .str x, .str y => if splitOk x y = true then some (.lst ((Txt.split x y).map D.str)) else none
  | _, _ => none
def chnR (f g : D → D → Option D) (a b c : R D) : R D := a.bnd fun x => b.bnd fun y => match f x y with
  | some (.bl true) => c.bnd fun z => R.of (g y z)
  | some (.bl false) => .ok (.bl false)
  | _ => .bad
section
variable {ps : List Pt} {sa sb sc : SE} {ma mb mc : R D} {s t : ST} {mt ms : R Bool} {f : D → D → Option D}
theorem ee (h : Ef sa ps ma) : Ee sa ps ma := fun ρ e => post_mono (h ρ e) (fun d h => ⟨none, h⟩) nox
theorem ef_c {d : D} : Ef (sC d) ps (.ok d) := fun ρ e => rfl
theorem ee_v {i : Nat} {p : Pt} {d : D} (h : ps[i]? = some p) (v : p.val = some d) : Ee (sV i) ps (.ok d) := fun ρ e => by
  obtain ⟨m, hm⟩ := e.val h v
  exact ⟨kd d (some [i]), by unfold sV; rw [hm]⟩
theorem ef_v {i : Nat} {p : Pt} {d : D} (h : ps[i]? = some p) (v : p.val = some d) : Ef (sV i) ps (immR (.ok d)) := fun ρ e => by
  obtain ⟨m, hm⟩ := e.val h v
  show (if d.imm = true then R.ok d else .bad).post _ _
  by_cases hd : d.imm = true
  · rw [if_pos hd]
    show sV i ρ = some (d, none)
    unfold sV
    rw [hm]
    simp [kd, hd]
  · rw [if_neg hd]; trivial
theorem ef_op (ha : Ee sa ps ma) (hb : Ee sb ps mb) : Ef (sOp f sa sb) ps (op2 f ma mb) := fun ρ e =>
  post_bnd (ha ρ e) nox fun x ⟨k, ex⟩ => post_bnd (hb ρ e) nox fun y ⟨k', ey⟩ => post_of fun z hz => by
    show sOp f sa sb ρ = some (z, none)
    unfold sOp
    rw [ex, ey]
    simp only [hz]
theorem et_s (ha : Ee sa ps ma) : Et (sT sa) ps (tR ma) := fun ρ e =>
  post_bnd (ha ρ e) nox fun x ⟨k, ex⟩ => by
    cases x <;> first | trivial | (show sT sa ρ = some _; unfold sT; rw [ex])
theorem et_tru (ha : Ee sa ps ma) : Et (sTru sa) ps (truR ma) := fun ρ e =>
  post_bnd (ha ρ e) nox fun x ⟨k, ex⟩ => post_of fun z hz => by
    show sTru sa ρ = some z
    unfold sTru
    rw [ex]
    exact hz
theorem et_not (h : Et s ps ms) : Et (tNotS s) ps (notT ms) := fun ρ e =>
  post_bnd (h ρ e) nox fun b eb => by
    show tNotS s ρ = some (!b)
    unfold tNotS
    rw [eb]
    rfl
theorem et_and (h : Et s ps ms) (h2 : Et t ps mt) : Et (tAndS s t) ps (andT ms mt) := fun ρ e =>
  post_bnd (h ρ e) nox fun b eb => by
    cases b with
    | true =>
      rw [if_pos rfl]
      refine post_mono (h2 ρ e) (fun c ec => ?_) nox
      show tAndS s t ρ = some c
      unfold tAndS
      rw [eb]
      exact ec
    | false =>
      show tAndS s t ρ = some false
      unfold tAndS
      rw [eb]
theorem et_or (h : Et s ps ms) (h2 : Et t ps mt) : Et (tOrS s t) ps (orT ms mt) := fun ρ e =>
  post_bnd (h ρ e) nox fun b eb => by
    cases b with
    | false =>
      rw [if_neg (by simp)]
      refine post_mono (h2 ρ e) (fun c ec => ?_) nox
      show tOrS s t ρ = some c
      unfold tOrS
      rw [eb]
      exact ec
    | true =>
      show tOrS s t ρ = some true
      unfold tOrS
      rw [eb]
theorem et_yes : Et tYesS ps (.ok true) := fun ρ e => rfl
theorem ef_not (ha : Ee sa ps ma) : Ef (sNot sa) ps (notR ma) := fun ρ e =>
  post_bnd (ha ρ e) nox fun x ⟨k, ex⟩ => by
    cases x <;> first | trivial | (show sNot sa ρ = some _; unfold sNot; rw [ex])
theorem ef_and (ha : Ee sa ps ma) (hb : Ef sb ps mb) : Ef (sAnd sa sb) ps (andR ma mb) := fun ρ e =>
  post_bnd (ha ρ e) nox fun x ⟨k, ex⟩ => by
    cases x with
    | bl b =>
      cases b with
      | true =>
        refine post_mono (hb ρ e) (fun c ec => ?_) nox
        show sAnd sa sb ρ = some (c, none)
        unfold sAnd
        rw [ex]
        exact ec
      | false =>
        show sAnd sa sb ρ = some (.bl false, none)
        unfold sAnd
        rw [ex]
    | _ => trivial
theorem ef_or (ha : Ee sa ps ma) (hb : Ef sb ps mb) : Ef (sOr sa sb) ps (orR ma mb) := fun ρ e =>
  post_bnd (ha ρ e) nox fun x ⟨k, ex⟩ => by
    cases x with
    | bl b =>
      cases b with
      | false =>
        refine post_mono (hb ρ e) (fun c ec => ?_) nox
        show sOr sa sb ρ = some (c, none)
        unfold sOr
        rw [ex]
        exact ec
      | true =>
        show sOr sa sb ρ = some (.bl true, none)
        unfold sOr
        rw [ex]
    | _ => trivial
theorem ef_if (hc : Et s ps ms) (ha : Ef sa ps ma) (hb : Ef sb ps mb) : Ef (sIf s sa sb) ps (iteR ms ma mb) := fun ρ e =>
  post_bnd (hc ρ e) nox fun b eb => by
    cases b with
    | true =>
      rw [if_pos rfl]
      refine post_mono (ha ρ e) (fun c ec => ?_) nox
      show sIf s sa sb ρ = some (c, none)
      unfold sIf
      rw [eb]
      exact ec
    | false =>
      rw [if_neg (by simp)]
      refine post_mono (hb ρ e) (fun c ec => ?_) nox
      show sIf s sa sb ρ = some (c, none)
      unfold sIf
      rw [eb]
      exact ec
theorem ee_if (hc : Et s ps ms) (ha : Ee sa ps ma) (hb : Ee sb ps mb) : Ee (sIf s sa sb) ps (iteR ms ma mb) := fun ρ e =>
  post_bnd (hc ρ e) nox fun b eb => by
    cases b with
    | true =>
      rw [if_pos rfl]
      refine post_mono (ha ρ e) (fun c ⟨k, ec⟩ => ⟨k, ?_⟩) nox
      unfold sIf
      rw [eb]
      exact ec
    | false =>
      rw [if_neg (by simp)]
      refine post_mono (hb ρ e) (fun c ⟨k, ec⟩ => ⟨k, ?_⟩) nox
      unfold sIf
      rw [eb]
      exact ec
theorem ef_neg (ha : Ee sa ps ma) : Ef (sNeg sa) ps (negR ma) := fun ρ e =>
  post_bnd (ha ρ e) nox fun x ⟨k, ex⟩ => by
    cases x <;> first | trivial | (show sNeg sa ρ = some _; unfold sNeg; rw [ex])
theorem ef_chn {g : D → D → Option D} (ha : Ee sa ps ma) (hb : Ee sb ps mb) (hc : Ee sc ps mc) : Ef (sChn f g sa sb sc) ps (chnR f g ma mb mc) := fun ρ e =>
  post_bnd (ha ρ e) nox fun x ⟨k, ex⟩ => post_bnd (hb ρ e) nox fun y ⟨k', ey⟩ => by
    show (match f x y with | some (.bl true) => mc.bnd fun z => R.of (g y z) | some (.bl false) => R.ok (.bl false) | _ => .bad).post _ _
    have u : sChn f g sa sb sc ρ = (match f x y with
      | some (.bl true) => (match sc ρ with
        | some (z, _) => (match g y z with | some w => some (w, none) | none => none)
        | none => none)
      | some (.bl false) => some (.bl false, none)
      | _ => none) := by
      unfold sChn
      rw [ex, ey]
      all_goals rfl
    cases hf : f x y with
    | none => trivial
    | some z =>
      rw [hf] at u
      cases z with
      | bl b =>
        cases b with
        | true =>
          refine post_bnd (hc ρ e) nox fun w ⟨k2, ew⟩ => post_of fun v hv => ?_
          rw [ew] at u
          simp only [hv] at u
          exact u
        | false => exact u
      | _ => trivial
/-! arguments -/
theorem al_nil : Al sANil ps (.ok []) := fun ρ e => ⟨[], rfl, rfl⟩
theorem al_cons {t : SA} {mt : R (List D)} (ha : Ee sa ps ma) (ht : Al t ps mt) : Al (sACons sa t) ps (consR ma mt) := fun ρ e =>
  post_bnd (ha ρ e) nox fun x ⟨k, ex⟩ => post_bnd (ht ρ e) nox fun r ⟨l, el, hl⟩ => ⟨(x, k) :: l, by unfold sACons; rw [ex, el], by rw [← hl]; rfl⟩
theorem as_nil : As sANil ps (.ok []) [] := fun ρ e => ⟨[], rfl, rfl, trivial⟩
theorem as_f {t : SA} {mt : R (List D)} {vs : List (Option Nat)} (ha : Ef sa ps ma) (ht : As t ps mt vs) : As (sACons sa t) ps (consR ma mt) (none :: vs) := fun ρ e =>
  post_bnd (ha ρ e) nox fun x ex => post_bnd (ht ρ e) nox fun r ⟨l, el, hl, hk⟩ => ⟨(x, none) :: l, by unfold sACons; rw [show sa ρ = _ from ex, el], by rw [← hl]; rfl, rfl, hk⟩
theorem as_v {t : SA} {mt : R (List D)} {vs : List (Option Nat)} {i : Nat} {p : Pt} {d : D} (h : ps[i]? = some p) (v : p.val = some d) (ht : As t ps mt vs) : As (sACons (sV i) t) ps (consR (.ok d) mt) (some i :: vs) := fun ρ e => by
  obtain ⟨m, hm⟩ := e.val h v
  show (mt.bnd fun r => .ok (d :: r)).post _ _
  refine post_bnd (ht ρ e) nox fun r ⟨l, el, hl, hk⟩ => ⟨(d, kd d (some [i])) :: l, ?_, by rw [← hl]; rfl, rfl, hk⟩
  unfold sACons sV
  rw [hm, el]
def noVs : List (Option Nat) → Bool
  | [] => true
  | none :: r => noVs r
  | _ => false
theorem argK_none : ∀ {vs : List (Option Nat)} {l : List (D × Kd)}, ArgK vs l → noVs vs = true → kAll l = none
  | [], [], _, _ => rfl
  | [], _ :: _, h, _ => h.elim
  | _ :: _, [], h, _ => h.elim
  | none :: vs, (d, k) :: l, h, e => by
    have h1 : k = none := h.1
    rw [kAll, h1, argK_none h.2 e]
    rfl
  | some _ :: vs, (d, k) :: l, h, e => by cases e
theorem kds_none {ds : List D} : kds ds none = none := by unfold kds; split <;> rfl
theorem len_dsOf {l : List (D × Kd)} : (dsOf l).length = l.length := by simp [dsOf]
theorem ef_lst {t : SA} {mt : R (List D)} {vs : List (Option Nat)} (ht : As t ps mt vs) (hn : noVs vs = true) : Ef (sLst t) ps (lstR mt) := fun ρ e =>
  post_bnd (ht ρ e) nox fun r ⟨l, el, hl, hk⟩ => by
    subst hl
    have hk2 := argK_none hk hn
    rw [len_dsOf]
    split
    · rename_i hc
      show sLst t ρ = _
      unfold sLst
      rw [el]
      simp only [hc, if_true, hk2, kds_none]
    · trivial
theorem ef_tup {t : SA} {mt : R (List D)} {vs : List (Option Nat)} (ht : As t ps mt vs) (hn : noVs vs = true) : Ef (sTup t) ps (tupR mt) := fun ρ e =>
  post_bnd (ht ρ e) nox fun r ⟨l, el, hl, hk⟩ => by
    subst hl
    have hk2 := argK_none hk hn
    rw [len_dsOf]
    split
    · rename_i hc
      show sTup t ρ = _
      unfold sTup
      rw [el]
      simp only [hc, if_true, hk2, kds_none]
    · trivial
theorem ee_lst {t : SA} {mt : R (List D)} (ht : Al t ps mt) : Ee (sLst t) ps (lstR mt) := fun ρ e =>
  post_bnd (ht ρ e) nox fun r ⟨l, el, hl⟩ => by
    subst hl
    rw [len_dsOf]
    split
    · rename_i hc
      refine ⟨kds (dsOf l) (kAll l), ?_⟩
      unfold sLst
      rw [el]
      simp only [hc, if_true]
    · trivial
theorem ee_tup {t : SA} {mt : R (List D)} (ht : Al t ps mt) : Ee (sTup t) ps (tupR mt) := fun ρ e =>
  post_bnd (ht ρ e) nox fun r ⟨l, el, hl⟩ => by
    subst hl
    rw [len_dsOf]
    split
    · rename_i hc
      refine ⟨kds (dsOf l) (kAll l), ?_⟩
      unfold sTup
      rw [el]
      simp only [hc, if_true]
    · trivial
theorem ixD_sIx {ρ : DEnv} {x y z : D} {k k' : Kd} (hx : sa ρ = some (x, k)) (hy : sb ρ = some (y, k')) (h : ixD x y = some z) : ∃ k2, sIx sa sb ρ = some (z, k2) ∧ (z.imm = true → k2 = none) := by
  unfold ixD at h
  unfold sIx
  rw [hx, hy]
  split at h
  · simp only [h]; exact ⟨_, rfl, fun hz => by simp [kd, hz]⟩
  · simp only [h]; exact ⟨_, rfl, fun hz => by simp [kd, hz]⟩
  · simp only [h]; exact ⟨_, rfl, fun hz => by simp [kd, hz]⟩
  · split at h
    · rename_i hc
      simp only [hc, if_true]
      split at h
      · rename_i c hc2
        cases h
        exact ⟨none, by simp only [hc2], fun _ => rfl⟩
      · cases h
    · cases h
  · cases h
theorem ee_ix (ha : Ee sa ps ma) (hb : Ee sb ps mb) : Ee (sIx sa sb) ps (op2 ixD ma mb) := fun ρ e =>
  post_bnd (ha ρ e) nox fun x ⟨k, ex⟩ => post_bnd (hb ρ e) nox fun y ⟨k', ey⟩ => post_of fun z hz => let ⟨k2, h, _⟩ := ixD_sIx ex ey hz; ⟨k2, h⟩
theorem ef_ix (ha : Ee sa ps ma) (hb : Ee sb ps mb) : Ef (sIx sa sb) ps (immR (op2 ixD ma mb)) := fun ρ e =>
  post_bnd (P := fun z => ∃ k2, sIx sa sb ρ = some (z, k2) ∧ (z.imm = true → k2 = none)) (post_bnd (ha ρ e) nox fun x ⟨k, ex⟩ => post_bnd (hb ρ e) nox fun y ⟨k', ey⟩ => post_of fun z hz => ixD_sIx ex ey hz) nox fun z ⟨k2, h, h2⟩ => by
    split
    · rename_i hz
      show _ = some (z, none)
      rw [h, h2 hz]
    · trivial
theorem eo_none : Eo (fun _ => some none) ps (.ok none) := fun ρ e => rfl
theorem eo_s (ha : Ee sa ps ma) : Eo (sOSome sa) ps (oSo ma) := fun ρ e =>
  post_bnd (ha ρ e) nox fun x ⟨k, ex⟩ => by
    cases x <;> first | trivial | (show sOSome sa ρ = some _; unfold sOSome; rw [ex])
theorem slD_s {ρ : DEnv} {x z : D} {k : Kd} {lo hi : DEnv → Option (Option Int)} {l u : Option Int} (hx : sa ρ = some (x, k)) (hl : lo ρ = some l) (hu : hi ρ = some u) (h : slD x l u = some z) : ∃ k2, sSl sa lo hi ρ = some (z, k2) ∧ (imms z.items = true → k2 = none) := by
  unfold slD at h
  unfold sSl
  rw [hx, hl, hu]
  split at h
  · cases h; exact ⟨_, rfl, fun hz => by simp only [kds]; exact if_pos hz⟩
  · cases h; exact ⟨_, rfl, fun hz => by simp only [kds]; exact if_pos hz⟩
  · cases h; exact ⟨_, rfl, fun hz => by simp only [kds]; exact if_pos hz⟩
  · split at h
    · rename_i hc
      cases h
      simp only [hc, if_true]
      exact ⟨none, rfl, fun _ => rfl⟩
    · cases h
  · cases h
theorem ee_sl {lo hi : DEnv → Option (Option Int)} {ml mu : R (Option Int)} (ha : Ee sa ps ma) (hl : Eo lo ps ml) (hu : Eo hi ps mu) : Ee (sSl sa lo hi) ps (slR ma ml mu) := fun ρ e =>
  post_bnd (ha ρ e) nox fun x ⟨k, ex⟩ => post_bnd (hl ρ e) nox fun l el => post_bnd (hu ρ e) nox fun u eu => post_of fun z hz => let ⟨k2, h, _⟩ := slD_s ex el eu hz; ⟨k2, h⟩
theorem ef_sl {lo hi : DEnv → Option (Option Int)} {ml mu : R (Option Int)} (ha : Ee sa ps ma) (hl : Eo lo ps ml) (hu : Eo hi ps mu) : Ef (sSl sa lo hi) ps (lfR (slR ma ml mu)) := fun ρ e =>
  post_bnd (P := fun z => ∃ k2, sSl sa lo hi ρ = some (z, k2) ∧ (imms z.items = true → k2 = none)) (post_bnd (ha ρ e) nox fun x ⟨k, ex⟩ => post_bnd (hl ρ e) nox fun l el => post_bnd (hu ρ e) nox fun u eu => post_of fun z hz => slD_s ex el eu hz) nox fun z ⟨k2, h, h2⟩ => by
    split
    · rename_i hz
      show _ = some (z, none)
      rw [h, h2 hz]
    · trivial
theorem catD_s {ρ : DEnv} {x y z : D} {k k' : Kd} (hx : sa ρ = some (x, k)) (hy : sb ρ = some (y, k')) (h : catD x y = some z) : ∃ k2, sCatL sa sb ρ = some (z, k2) ∧ (imms z.items = true → k2 = none) ∧ (k = none → k' = none → k2 = none) := by
  unfold catD at h
  unfold sCatL
  rw [hx, hy]
  split at h
  · split at h
    · rename_i hc
      cases h
      simp only [hc, if_true]
      exact ⟨_, rfl, fun hz => by simp only [kds]; exact if_pos hz, fun e1 e2 => by subst e1; subst e2; exact kds_none⟩
    · cases h
  · split at h
    · rename_i hc
      cases h
      simp only [hc, if_true]
      exact ⟨_, rfl, fun hz => by simp only [kds]; exact if_pos hz, fun e1 e2 => by subst e1; subst e2; exact kds_none⟩
    · cases h
  · cases h
theorem ee_cat (ha : Ee sa ps ma) (hb : Ee sb ps mb) : Ee (sCatL sa sb) ps (op2 catD ma mb) := fun ρ e =>
  post_bnd (ha ρ e) nox fun x ⟨k, ex⟩ => post_bnd (hb ρ e) nox fun y ⟨k', ey⟩ => post_of fun z hz => let ⟨k2, h, _⟩ := catD_s ex ey hz; ⟨k2, h⟩
theorem ef_catF (ha : Ef sa ps ma) (hb : Ef sb ps mb) : Ef (sCatL sa sb) ps (op2 catD ma mb) := fun ρ e =>
  post_bnd (ha ρ e) nox fun x ex => post_bnd (hb ρ e) nox fun y ey => post_of fun z hz => by
    obtain ⟨k2, h, _, h2⟩ := catD_s ex ey hz
    show _ = some (z, none)
    rw [h, h2 rfl rfl]
theorem ef_cat (ha : Ee sa ps ma) (hb : Ee sb ps mb) : Ef (sCatL sa sb) ps (lfR (op2 catD ma mb)) := fun ρ e =>
  post_bnd (P := fun z => ∃ k2, sCatL sa sb ρ = some (z, k2) ∧ (imms z.items = true → k2 = none)) (post_bnd (ha ρ e) nox fun x ⟨k, ex⟩ => post_bnd (hb ρ e) nox fun y ⟨k', ey⟩ => post_of fun z hz => let ⟨k2, h, h2, _⟩ := catD_s ex ey hz; ⟨k2, h, h2⟩) nox fun z ⟨k2, h, h2⟩ => by
    split
    · rename_i hz
      show _ = some (z, none)
      rw [h, h2 hz]
    · trivial
theorem ef_rep (ha : Ee sa ps ma) (hb : Ee sb ps mb) : Ef (sRepL sa sb) ps (op2 repD ma mb) := fun ρ e =>
  post_bnd (ha ρ e) nox fun x ⟨k, ex⟩ => post_bnd (hb ρ e) nox fun y ⟨k', ey⟩ => post_of fun z hz => by
    show sRepL sa sb ρ = some (z, none)
    unfold repD at hz
    unfold sRepL
    rw [ex, ey]
    split at hz
    · split at hz
      · rename_i hc
        cases hz
        simp only [hc, if_true]
      · cases hz
    · cases hz
theorem listD_s {ρ : DEnv} {x z : D} {k : Kd} (hx : sa ρ = some (x, k)) (h : listD x = some z) : ∃ k2, sList sa ρ = some (z, k2) ∧ (imms z.items = true → k2 = none) ∧ (k = none → k2 = none) := by
  unfold listD at h
  unfold sList
  rw [hx]
  split at h <;> first
    | (cases h; exact ⟨_, rfl, fun hz => by simp only [kds]; exact if_pos hz, fun e1 => by subst e1; exact kds_none⟩)
    | cases h
theorem tupleD_s {ρ : DEnv} {x z : D} {k : Kd} (hx : sa ρ = some (x, k)) (h : tupleD x = some z) : ∃ k2, sTuple sa ρ = some (z, k2) ∧ (imms z.items = true → k2 = none) ∧ (k = none → k2 = none) := by
  unfold tupleD at h
  unfold sTuple
  rw [hx]
  split at h <;> first
    | (cases h; exact ⟨_, rfl, fun hz => by simp only [kds]; exact if_pos hz, fun e1 => by subst e1; exact kds_none⟩)
    | cases h
theorem ee_list (ha : Ee sa ps ma) : Ee (sList sa) ps (un1 listD ma) := fun ρ e => post_bnd (ha ρ e) nox fun x ⟨k, ex⟩ => post_of fun z hz => let ⟨k2, h, _⟩ := listD_s ex hz; ⟨k2, h⟩
theorem ee_tuple (ha : Ee sa ps ma) : Ee (sTuple sa) ps (un1 tupleD ma) := fun ρ e => post_bnd (ha ρ e) nox fun x ⟨k, ex⟩ => post_of fun z hz => let ⟨k2, h, _⟩ := tupleD_s ex hz; ⟨k2, h⟩
theorem ef_listF (ha : Ef sa ps ma) : Ef (sList sa) ps (un1 listD ma) := fun ρ e => post_bnd (ha ρ e) nox fun x ex => post_of fun z hz => by
  obtain ⟨k2, h, _, h2⟩ := listD_s ex hz
  show _ = some (z, none)
  rw [h, h2 rfl]
theorem ef_tupleF (ha : Ef sa ps ma) : Ef (sTuple sa) ps (un1 tupleD ma) := fun ρ e => post_bnd (ha ρ e) nox fun x ex => post_of fun z hz => by
  obtain ⟨k2, h, _, h2⟩ := tupleD_s ex hz
  show _ = some (z, none)
  rw [h, h2 rfl]
theorem ef_list (ha : Ee sa ps ma) : Ef (sList sa) ps (lfR (un1 listD ma)) := fun ρ e =>
  post_bnd (P := fun z => ∃ k2, sList sa ρ = some (z, k2) ∧ (imms z.items = true → k2 = none)) (post_bnd (ha ρ e) nox fun x ⟨k, ex⟩ => post_of fun z hz => let ⟨k2, h, h2, _⟩ := listD_s ex hz; ⟨k2, h, h2⟩) nox fun z ⟨k2, h, h2⟩ => by
    split
    · rename_i hz
      show _ = some (z, none)
      rw [h, h2 hz]
    · trivial
theorem ef_tuple (ha : Ee sa ps ma) : Ef (sTuple sa) ps (lfR (un1 tupleD ma)) := fun ρ e =>
  post_bnd (P := fun z => ∃ k2, sTuple sa ρ = some (z, k2) ∧ (imms z.items = true → k2 = none)) (post_bnd (ha ρ e) nox fun x ⟨k, ex⟩ => post_of fun z hz => let ⟨k2, h, h2, _⟩ := tupleD_s ex hz; ⟨k2, h, h2⟩) nox fun z ⟨k2, h, h2⟩ => by
    split
    · rename_i hz
      show _ = some (z, none)
      rw [h, h2 hz]
    · trivial
theorem ef_blt {g : List D → Option D} {t : SA} {mt : R (List D)} (ht : Al t ps mt) : Ef (sCall g t) ps (bltR g mt) := fun ρ e =>
  post_bnd (ht ρ e) nox fun r ⟨l, el, hl⟩ => post_of fun z hz => by
    show sCall g t ρ = some (z, none)
    unfold sCall
    rw [el]
    simp only [hl, hz]
theorem ef_isi {T : Ty} (ha : Ee sa ps ma) : Ef (sIsi T sa) ps (un1 (isiD T) ma) := fun ρ e => post_bnd (ha ρ e) nox fun x ⟨k, ex⟩ => post_of fun z hz => by
  show sIsi T sa ρ = some (z, none)
  unfold isiD at hz
  unfold sIsi
  rw [ex]
  cases h : isTy T x with
  | none => rw [h] at hz; cases hz
  | some b => rw [h] at hz; cases hz; simp only [h]
theorem ef_join (ha : Ee sa ps ma) (hb : Ee sb ps mb) : Ef (sJoin sa sb) ps (op2 joinD ma mb) := fun ρ e =>
  post_bnd (ha ρ e) nox fun x ⟨k, ex⟩ => post_bnd (hb ρ e) nox fun y ⟨k', ey⟩ => post_of fun z hz => by
    show sJoin sa sb ρ = some (z, none)
    unfold joinD at hz
    unfold sJoin
    rw [ex, ey]
    split at hz
    · split at hz
      · rename_i ys hy
        split at hz
        · rename_i hc
          cases hz
          simp only [hy, hc, if_true]
        · cases hz
      · cases hz
    · cases hz
theorem ef_upper (ha : Ee sa ps ma) : Ef (sUpper sa) ps (un1 upperD ma) := fun ρ e => post_bnd (ha ρ e) nox fun x ⟨k, ex⟩ => post_of fun z hz => by
  show sUpper sa ρ = some (z, none)
  unfold upperD at hz
  unfold sUpper
  rw [ex]
  split at hz
  · split at hz
    · rename_i hc
      cases hz
      simp only [hc, if_true]
    · cases hz
  · cases hz
theorem ef_split (ha : Ee sa ps ma) (hb : Ee sb ps mb) : Ef (sSplit sa sb) ps (op2 splitD ma mb) := fun ρ e =>
  post_bnd (ha ρ e) nox fun x ⟨k, ex⟩ => post_bnd (hb ρ e) nox fun y ⟨k', ey⟩ => post_of fun z hz => by
    show sSplit sa sb ρ = some (z, none)
    unfold splitD at hz
    unfold sSplit
    rw [ex, ey]
    split at hz
    · split at hz
      · rename_i hc
        cases hz
        simp only [hc, if_true]
      · cases hz
    · cases hz
/-! iteration -/
/-- an iterable that is nobody's -/
def Ei (s : SI) (ps : List Pt) (m : R (List D)) : Prop := ∀ ρ, EPs ps ρ → m.post (fun ds => s ρ = some (ds, none)) NoX
def itsD : D → Option (List D)
  | .lst ds => some ds
  | .rol ds => some ds
  | _ => none
def itTD : D → Option (List D)
  | .tup ds => some ds
  | _ => none
def itSD : D → Option (List D)
  | .str x => some (signsD x)
  | _ => none
def itR (f : D → Option (List D)) (m : R D) : R (List D) := m.bnd fun d => R.of (f d)
theorem ei_it (ha : Ef sa ps ma) : Ei (sIt sa) ps (itR itsD ma) := fun ρ e => post_bnd (ha ρ e) nox fun x ex => post_of fun z hz => by
  have ex : sa ρ = some (x, none) := ex
  show sIt sa ρ = some (z, none)
  unfold sIt
  rw [ex]
  cases x <;> first | (cases hz; rfl) | cases hz
theorem ei_itT (ha : Ef sa ps ma) : Ei (sItT sa) ps (itR itTD ma) := fun ρ e => post_bnd (ha ρ e) nox fun x ex => post_of fun z hz => by
  have ex : sa ρ = some (x, none) := ex
  show sItT sa ρ = some (z, none)
  unfold sItT
  rw [ex]
  cases x <;> first | (cases hz; rfl) | cases hz
theorem ei_itS (ha : Ee sa ps ma) : Ei (sItS sa) ps (itR itSD ma) := fun ρ e => post_bnd (ha ρ e) nox fun x ⟨k, ex⟩ => post_of fun z hz => by
  show sItS sa ρ = some (z, none)
  unfold sItS
  rw [ex]
  cases x <;> first | (cases hz; rfl) | cases hz
def rngR : List D → Option (List D)
  | [.int j] => if okP (-(2 ^ 62) ≤ j ∧ j < 2 ^ 62) = true then some (rngD 0 j.toNat) else none
  | _ => none
def rng2R : List D → Option (List D)
  | [.int i, .int j] => if okP (-(2 ^ 62) ≤ i ∧ i < 2 ^ 62 ∧ -(2 ^ 62) ≤ j ∧ j < 2 ^ 62) = true then some (rngD i (j - i).toNat) else none
  | _ => none
def itA (f : List D → Option (List D)) (m : R (List D)) : R (List D) := m.bnd fun ds => R.of (f ds)
theorem ei_rng {t : SA} {mt : R (List D)} (ht : Al t ps mt) : Ei (sRng t) ps (itA rngR mt) := fun ρ e => post_bnd (ht ρ e) nox fun r ⟨l, el, hl⟩ => post_of fun z hz => by
  show sRng t ρ = some (z, none)
  unfold rngR at hz
  unfold sRng
  rw [el]
  split at hz
  · split at hz
    · rename_i hc
      cases hz
      match l, hl with
      | [(_, k)], hl =>
        cases hl
        simp only [hc, if_true]
    · cases hz
  · cases hz
theorem ei_rng2 {t : SA} {mt : R (List D)} (ht : Al t ps mt) : Ei (sRng2 t) ps (itA rng2R mt) := fun ρ e => post_bnd (ht ρ e) nox fun r ⟨l, el, hl⟩ => post_of fun z hz => by
  show sRng2 t ρ = some (z, none)
  unfold rng2R at hz
  unfold sRng2
  rw [el]
  split at hz
  · split at hz
    · rename_i hc
      cases hz
      match l, hl with
      | [(_, k), (_, k')], hl =>
        cases hl
        simp only [hc, if_true]
    · cases hz
  · cases hz
end
end DL
end DLsec25
set_option maxRecDepth 100000
noncomputable section DLsec26
/-! DL26: plain functions: comprehensions, calls, what writes. -/
namespace DL
open PySem PySem.Spec PyProof.Rows L2
variable {ps : List Pt} {τ τ1 τ2 : Type} {XE : DEnv → Prop}
/-! ### targets, comprehensions -/
def Tg {σ : Type} (g : SG) (κ : Kd) (ps : List Pt) (tp : D → R σ) (post : σ → List Pt) : Prop := ∀ ρ, EPs ps ρ → ∀ d, (tp d).post (fun t => ∃ ρ', g d κ ρ = some ρ' ∧ EPs (post t) ρ') NoX
def immG (d : D) : R D := if d.imm = true then .ok d else .bad
theorem tg_n {i : Nat} {p : Pt} (h : ps[i]? = some p) (v : p.na = true) : Tg (setS i) (some []) ps .ok (fun d => ps.set i (.s d)) := fun ρ e d => e.setSs h v
theorem setS_imm {i : Nat} {d : D} {k : Kd} {ρ : DEnv} (hd : d.imm = true) : setS i d k ρ = setS i d none ρ := by
  unfold setS
  simp only [hd, if_true]
theorem tg_i {i : Nat} {p : Pt} {κ : Kd} (h : ps[i]? = some p) (v : p.na = true) : Tg (setS i) κ ps immG (fun d => ps.set i (.o d)) := fun ρ e d => by
  unfold immG
  split
  · rename_i hd
    exact ⟨_, by rw [setS_imm hd]; exact e.setS h v, e.set rfl⟩
  · trivial
/-- an iterable and whose it is -/
def Eik (s : SI) (κ : Kd) (ps : List Pt) (m : R (List D)) : Prop := ∀ ρ, EPs ps ρ → m.post (fun ds => s ρ = some (ds, κ)) NoX
theorem eik {s : SI} {m : R (List D)} (h : Ei s ps m) : Eik s none ps m := h
def itLD : D → Option (List D)
  | .lst ds => some ds
  | _ => none
theorem eik_v {i : Nat} {p : Pt} {d : D} (h : ps[i]? = some p) (v : p.val = some d) : Eik (sIt (sV i)) (some [i]) ps (itR itLD (.ok d)) := fun ρ e => by
  obtain ⟨m, hm⟩ := e.val h v
  show (R.of (itLD d)).post _ _
  refine post_of fun ds hds => ?_
  cases d with
  | lst es =>
    cases hds
    show sIt (sV i) ρ = _
    unfold sIt sV
    rw [hm]
    rfl
  | _ => cases hds
def lcR (ft : D → R Bool) (fe : D → R D) : List D → R (List D)
  | [] => .ok []
  | d :: r => (ft d).bnd fun b => if b = true then (fe d).bnd fun y => (lcR ft fe r).bnd fun ys => .ok (y :: ys) else lcR ft fe r
def lcD (m : R (List D)) (ft : D → R Bool) (fe : D → R D) : R D := m.bnd fun ds => (lcR ft fe ds).bnd fun ys => if okP (ds.length ≤ sizeLine) = true then .ok (.lst ys) else .bad
def wipeP (ps : List Pt) : List Nat → List Pt
  | [] => ps
  | v :: vs => (wipeP ps vs).set v .u
theorem EPs.wipe {ps : List Pt} {ρ : DEnv} (h : EPs ps ρ) : ∀ vs, EPs (wipeP ps vs) (wipeD ρ vs)
  | [] => h
  | v :: vs => (EPs.wipe h vs).set fun d e => by cases e
theorem ef_lc {σ : Type} {it : SI} {κ : Kd} {mi : R (List D)} {vs : List Nat} {g : SG} {tp : D → R σ} {post : σ → List Pt} {tt : ST} {te : SE} {ft : σ → R Bool} {fe : σ → R D}
    (hi : Eik it κ ps mi) (hg : Tg g (kOr κ) (wipeP ps vs) tp post) (ht : ∀ t, Et tt (post t) (ft t)) (he : ∀ t, Ef te (post t) (fe t)) :
    Ef (sLc it vs g tt te) ps (lcD mi (fun d => (tp d).bnd ft) (fun d => (tp d).bnd fe)) := fun ρ e =>
  post_bnd (hi ρ e) nox fun ds eds => by
    have key : ∀ l : List D, (lcR (fun d => (tp d).bnd ft) (fun d => (tp d).bnd fe) l).post (fun ys => lcS (kOr κ) g tt te l (wipeD ρ vs) = some ys) NoX := by
      intro l
      induction l with
      | nil => exact rfl
      | cons d r ih =>
        unfold lcR
        have h1 := hg _ (e.wipe vs) d
        cases htp : tp d with
        | bad => trivial
        | ex x => rw [htp] at h1; exact h1.elim
        | ok t =>
          rw [htp] at h1
          obtain ⟨ρ', hρ, eρ⟩ := h1
          show ((ft t).bnd _).post _ _
          refine post_bnd (ht t ρ' eρ) nox fun b hb => ?_
          cases b with
          | true =>
            rw [if_pos rfl]
            show ((fe t).bnd _).post _ _
            refine post_bnd (he t ρ' eρ) nox fun y hy => post_bnd ih nox fun ys hys => ?_
            show lcS _ g tt te (d :: r) _ = _
            rw [lcS, hρ]
            have hb : tt ρ' = some true := hb
            have hy : te ρ' = some (y, none) := hy
            simp only [hb, hy]
            rw [if_pos (Or.inr trivial)]
            have hys : lcS (kOr κ) g tt te r (wipeD ρ vs) = some ys := hys
            rw [hys]
          | false =>
            rw [if_neg (by simp)]
            refine post_mono ih (fun ys hys => ?_) nox
            show lcS _ g tt te (d :: r) _ = _
            rw [lcS, hρ]
            have hb : tt ρ' = some false := hb
            simp only [hb]
            exact hys
    refine post_bnd (key ds) nox fun ys hys => ?_
    split
    · rename_i hc
      show sLc it vs g tt te ρ = _
      unfold sLc
      have eds : it ρ = some (ds, κ) := eds
      rw [eds]
      have hys : lcS (kOr κ) g tt te ds (wipeD ρ vs) = some ys := hys
      simp only [hys, hc, if_true]
    · trivial
/-! ### defs -/
def selIo : List Bool → List D → List D
  | true :: io, u :: us => u :: selIo io us
  | false :: io, _ :: us => selIo io us
  | _, _ => []
def FRef (g : FS) (io : List Bool) (p : List D → R (D × List D)) : Prop := ∀ ds, (p ds).post (fun r => ds.length = io.length ∧ ∃ us, g ds = .ok r.1 us ∧ us.length = io.length ∧ selIo io us = r.2) (fun x => g ds = .ex x)
def callP (p : List D → R (D × List D)) (m : R (List D)) : R D := m.bnd fun ds => (p ds).noex.bnd fun r => .ok r.1
theorem post_noex {α : Type} {m : R α} {P : α → Prop} {E : Xn → Prop} (h : m.post P E) : m.noex.post P NoX := by
  cases m <;> first | exact h | trivial
theorem ef_call {gf : FS} {io : List Bool} {p : List D → R (D × List D)} {n : Nat} {t : SA} {m : R (List D)} (c : FRef gf io p) (ht : Al t ps m) (hn : io.length = n := by rfl) : Ef (sCallF gf n t) ps (callP p m) := fun ρ e =>
  post_bnd (ht ρ e) nox fun ds ⟨l, el, hl⟩ => post_bnd (post_noex (c ds)) nox fun r ⟨h1, us, h2, _⟩ => by
    show sCallF gf n t ρ = some (r.1, none)
    unfold sCallF
    rw [el]
    simp only
    rw [if_pos (by rw [← hn, ← h1, ← hl, len_dsOf]), hl, h2]
/-! ### expressions that write -/
def Ex (s : SX) (ps : List Pt) (XE : DEnv → Prop) (m : R (D × τ)) (post : τ → List Pt) : Prop := ∀ ρ, EPs ps ρ → m.post (fun r => ∃ ρ', s ρ = .ok r.1 none ρ' ∧ EPs (post r.2) ρ') (fun x => ∃ ρ', s ρ = .ex x ρ' ∧ XE ρ')
def Ea (t : SXA) (ps : List Pt) (XE : DEnv → Prop) (m : R (List D × τ)) (vs : List (Option Nat)) (post : τ → List Pt) : Prop := ∀ ρ, EPs ps ρ → m.post (fun r => ∃ l ρ', t ρ = .ok l ρ' ∧ dsOf l = r.1 ∧ ArgK vs l ∧ EPs (post r.2) ρ') (fun x => ∃ ρ', t ρ = .ex x ρ' ∧ XE ρ')
def pR {α : Type} (m : R α) : R (α × Unit) := m.bnd fun d => .ok (d, ())
theorem xe_p {s : SE} {m : R D} (h : Ef s ps m) : Ex (sX s) ps XE (pR m) (fun _ => ps) := fun ρ e => post_bnd (h ρ e) nox fun d ed => ⟨ρ, by unfold sX; rw [show s ρ = _ from ed], e⟩
def popR (d : D) : R (D × D) := match d with
  | .lst ds => if ds.isEmpty = true then .bad else .ok (ds.getLastD .non, .lst ds.dropLast)
  | _ => .bad
theorem xe_pop {i : Nat} {p : Pt} {d : D} (h : ps[i]? = some p) (v : p.own = some d) : Ex (sPop i) ps XE (popR d) (fun d' => ps.set i (p.upd d')) := fun ρ e => by
  obtain ⟨m, h1, h2, h3⟩ := e.own h v
  cases d with
  | lst ds =>
    show (if ds.isEmpty = true then R.bad else R.ok (ds.getLastD .non, D.lst ds.dropLast)).post _ _
    split
    · trivial
    · rename_i hne
      refine ⟨ρ.set i (some (.lst ds.dropLast, m)), ?_, e.set (h3 _)⟩
      unfold sPop
      rw [h1]
      show (if okP (m.o = true ∧ ds ≠ []) = true then _ else _) = _
      rw [if_pos (okP_iff.mpr ⟨h2, by simpa using hne⟩)]
  | _ => trivial
def appR (d y : D) : R D := match d with
  | .lst ds => if okP (ds.length < sizeLine) = true then .ok (.lst (ds ++ [y])) else .bad
  | _ => .bad
def isLst (d : D) : R Unit := match d with | .lst _ => .ok () | _ => .bad
def appE (d : D) (m : R D) : R (D × D) := m.bnd fun y => (appR d y).bnd fun d' => .ok (.non, d')
theorem xe_app {i : Nat} {sb : SE} {p : Pt} {d : D} {m : R D} (h : ps[i]? = some p) (v : p.own = some d) (hb : Ef sb ps m) : Ex (sAppend i (sX sb)) ps XE (appE d m) (fun d' => ps.set i (p.upd d')) := fun ρ e =>
  post_bnd (hb ρ e) nox fun y ey => by
    obtain ⟨md, h1, h2, h3⟩ := e.own h v
    cases d with
    | lst ds =>
      show ((if okP (ds.length < sizeLine) = true then R.ok (D.lst (ds ++ [y])) else .bad).bnd _).post _ _
      split
      · rename_i hc
        refine ⟨ρ.set i (some (.lst (ds ++ [y]), md)), ?_, e.set (h3 _)⟩
        unfold sAppend sX
        rw [h1, show sb ρ = some (y, none) from ey]
        simp only [h1]
        rw [if_pos (okP_iff.mpr ⟨h2, .inr trivial, okP_iff.mp hc⟩)]
      · trivial
    | _ => trivial
/-- .. what is put behind writes, too -/
def appX (d0 : D) (m : R (D × τ)) (dt : τ → D) : R (D × (τ × D)) := (isLst d0).bnd fun _ => m.bnd fun r => (appR (dt r.2) r.1).bnd fun d' => .ok (.non, (r.2, d'))
theorem xe_appX {i : Nat} {sb : SX} {p0 : Pt} {d0 : D} {p : τ → Pt} {d : τ → D} {m : R (D × τ)} {post : τ → List Pt} (h0 : ps[i]? = some p0) (v0 : p0.val = some d0) (hb : Ex sb ps XE m post) (h : ∀ t, (post t)[i]? = some (p t)) (v : ∀ t, (p t).own = some (d t)) :
    Ex (sAppend i sb) ps XE (appX d0 m d) (fun t => (post t.1).set i ((p t.1).upd t.2)) := fun ρ e => by
  obtain ⟨m0, hm0⟩ := e.val h0 v0
  cases d0 with
  | lst ds0 =>
    show (m.bnd _).post _ _
    have un : ∀ o, sb ρ = o → sAppend i sb ρ = (match o with
      | .ok y ky ρ2 => (match ρ2[i]? with
        | some (some (.lst ds, m)) => if okP (m.o = true ∧ (y.imm = true ∨ ky = none) ∧ ds.length < sizeLine) = true then EO.ok .non none (ρ2.set i (some (.lst (ds ++ [y]), m))) else .bad
        | _ => .bad)
      | .ex z ρ2 => .ex z ρ2
      | .bad => .bad) := by
      rintro o rfl
      unfold sAppend
      rw [hm0]
      all_goals rfl
    cases m with
    | bad => trivial
    | ex x =>
      obtain ⟨ρ', h1, h2⟩ := hb ρ e
      exact ⟨ρ', by rw [un _ h1], h2⟩
    | ok r =>
      obtain ⟨ρ', h1, h2⟩ := hb ρ e
      obtain ⟨md, g1, g2, g3⟩ := h2.own (h r.2) (v r.2)
      show ((appR (d r.2) r.1).bnd _).post _ _
      have u := un _ h1
      simp only [g1] at u
      cases hd : d r.2 with
      | lst ds =>
        rw [hd] at u
        show ((if okP (ds.length < sizeLine) = true then R.ok (D.lst (ds ++ [r.1])) else .bad).bnd _).post _ _
        split
        · rename_i hc
          refine ⟨ρ'.set i (some (.lst (ds ++ [r.1]), md)), ?_, h2.set (g3 _)⟩
          rw [u]
          show (if okP (md.o = true ∧ (r.1.imm = true ∨ True) ∧ ds.length < sizeLine) = true then _ else _) = _
          rw [if_pos (okP_iff.mpr ⟨g2, .inr trivial, okP_iff.mp hc⟩)]
        · trivial
      | _ => trivial
  | _ => trivial
/-- two parts, the first whatever it is -/
def opX (f : D → D → Option D) (m1 : R (D × τ1)) (m2 : τ1 → R (D × τ2)) : R (D × (τ1 × τ2)) := m1.bnd fun r => (m2 r.2).bnd fun q => (R.of (f r.1 q.1)).bnd fun z => .ok (z, (r.2, q.2))
theorem xe_opX {f : D → D → Option D} {sa sb : SX} {m1 : R (D × τ1)} {post1 : τ1 → List Pt} {m2 : τ1 → R (D × τ2)} {post2 : τ1 → τ2 → List Pt} (ha : Ex sa ps XE m1 post1) (hb : ∀ t, Ex sb (post1 t) XE (m2 t) (post2 t)) :
    Ex (sOpX f (fX sa sb)) ps XE (opX f m1 m2) (fun t => post2 t.1 t.2) := fun ρ e => by
  have a := ha ρ e
  unfold opX
  cases m1 with
  | bad => trivial
  | ex x =>
    obtain ⟨ρ', h1, h2⟩ := a
    exact ⟨ρ', by unfold sOpX fX; rw [h1], h2⟩
  | ok r =>
    obtain ⟨ρ1, h1, h2⟩ := a
    have b := hb r.2 ρ1 h2
    have u : fX sa sb ρ = (match sb ρ1 with
      | .ok y ky ρ2 => .ok r.1 none y ky ρ2
      | .ex z ρ2 => .ex z ρ2
      | .bad => .bad) := by
      unfold fX
      rw [h1]
      show (if okP (r.1.imm = true ∨ (none : Kd) = none) = true then _ else _) = _
      rw [if_pos (okP_iff.mpr (.inr rfl))]
      all_goals rfl
    show ((m2 r.2).bnd _).post _ _
    cases hm2 : m2 r.2 with
    | bad => trivial
    | ex x =>
      rw [hm2] at b
      obtain ⟨ρ', g1, g2⟩ := b
      exact ⟨ρ', by unfold sOpX; rw [u, g1], g2⟩
    | ok q =>
      rw [hm2] at b
      obtain ⟨ρ2, g1, g2⟩ := b
      show ((R.of (f r.1 q.1)).bnd _).post _ _
      cases hf : f r.1 q.1 with
      | none => trivial
      | some z => exact ⟨ρ2, by unfold sOpX; rw [u, g1]; simp only [hf], g2⟩
def opV (f : D → D → Option D) (d : τ → D) (m : R (D × τ)) : R (D × τ) := m.bnd fun r => (R.of (f (d r.2) r.1)).bnd fun z => .ok (z, r.2)
theorem xe_opV {f : D → D → Option D} {i : Nat} {sb : SX} {p0 : Pt} {d0 : D} {p : τ → Pt} {d : τ → D} {m : R (D × τ)} {post : τ → List Pt} (h0 : ps[i]? = some p0) (v0 : p0.val = some d0) (hb : Ex sb ps XE m post) (h : ∀ t, (post t)[i]? = some (p t)) (v : ∀ t, (p t).val = some (d t)) :
    Ex (sOpX f (fV i sb)) ps XE (opV f d m) post := fun ρ e => by
  obtain ⟨m0, hm0⟩ := e.val h0 v0
  have b := hb ρ e
  unfold opV
  cases m with
  | bad => trivial
  | ex x =>
    obtain ⟨ρ', h1, h2⟩ := b
    exact ⟨ρ', by unfold sOpX fV; rw [hm0, h1], h2⟩
  | ok r =>
    obtain ⟨ρ', h1, h2⟩ := b
    obtain ⟨m1, hm1⟩ := h2.val (h r.2) (v r.2)
    show ((R.of (f (d r.2) r.1)).bnd _).post _ _
    cases hf : f (d r.2) r.1 with
    | none => trivial
    | some z => exact ⟨ρ', by unfold sOpX fV; rw [hm0, h1]; simp only [hm1, hf], h2⟩
theorem ixX_ixD {x y z : D} {k : Kd} (h : ixD x y = some z) : ∃ k2, ixX x k y = some (z, k2) ∧ (z.imm = true → k2 = none) ∧ (k = none → k2 = none) := by
  unfold ixD at h
  split at h
  · exact ⟨kd z k, by simp only [ixX, h], fun hz => by simp [kd, hz], fun hk => by subst hk; simp [kd]⟩
  · exact ⟨kd z k, by simp only [ixX, h], fun hz => by simp [kd, hz], fun hk => by subst hk; simp [kd]⟩
  · exact ⟨kd z k, by simp only [ixX, h], fun hz => by simp [kd, hz], fun hk => by subst hk; simp [kd]⟩
  · split at h
    · rename_i hc
      split at h
      · rename_i c hc2
        cases h
        exact ⟨none, by simp only [ixX, hc, if_true, hc2], fun _ => rfl, fun _ => rfl⟩
      · cases h
    · cases h
  · cases h
theorem xe_ixX {sa sb : SX} {m1 : R (D × τ1)} {post1 : τ1 → List Pt} {m2 : τ1 → R (D × τ2)} {post2 : τ1 → τ2 → List Pt} (ha : Ex sa ps XE m1 post1) (hb : ∀ t, Ex sb (post1 t) XE (m2 t) (post2 t)) :
    Ex (sIxX (fX sa sb)) ps XE (opX ixD m1 m2) (fun t => post2 t.1 t.2) := fun ρ e => by
  have a := ha ρ e
  unfold opX
  cases m1 with
  | bad => trivial
  | ex x =>
    obtain ⟨ρ', h1, h2⟩ := a
    exact ⟨ρ', by unfold sIxX fX; rw [h1], h2⟩
  | ok r =>
    obtain ⟨ρ1, h1, h2⟩ := a
    have b := hb r.2 ρ1 h2
    have u : fX sa sb ρ = (match sb ρ1 with
      | .ok y ky ρ2 => .ok r.1 none y ky ρ2
      | .ex z ρ2 => .ex z ρ2
      | .bad => .bad) := by
      unfold fX
      rw [h1]
      show (if okP (r.1.imm = true ∨ (none : Kd) = none) = true then _ else _) = _
      rw [if_pos (okP_iff.mpr (.inr rfl))]
      all_goals rfl
    show ((m2 r.2).bnd _).post _ _
    cases hm2 : m2 r.2 with
    | bad => trivial
    | ex x =>
      rw [hm2] at b
      obtain ⟨ρ', g1, g2⟩ := b
      exact ⟨ρ', by unfold sIxX; rw [u, g1], g2⟩
    | ok q =>
      rw [hm2] at b
      obtain ⟨ρ2, g1, g2⟩ := b
      show ((R.of (ixD r.1 q.1)).bnd _).post _ _
      cases hf : ixD r.1 q.1 with
      | none => trivial
      | some z =>
        obtain ⟨k2, e1, _, e3⟩ := ixX_ixD (k := none) hf
        have e3 := e3 rfl
        subst e3
        exact ⟨ρ2, by unfold sIxX; rw [u, g1]; simp only [e1], g2⟩
def ixV (d : τ → D) (m : R (D × τ)) : R (D × τ) := m.bnd fun r => (immR (R.of (ixD (d r.2) r.1))).bnd fun z => .ok (z, r.2)
theorem xe_ixV {i : Nat} {sb : SX} {p0 : Pt} {d0 : D} {p : τ → Pt} {d : τ → D} {m : R (D × τ)} {post : τ → List Pt} (h0 : ps[i]? = some p0) (v0 : p0.val = some d0) (hb : Ex sb ps XE m post) (h : ∀ t, (post t)[i]? = some (p t)) (v : ∀ t, (p t).val = some (d t)) :
    Ex (sIxX (fV i sb)) ps XE (ixV d m) post := fun ρ e => by
  obtain ⟨m0, hm0⟩ := e.val h0 v0
  have b := hb ρ e
  unfold ixV
  cases m with
  | bad => trivial
  | ex x =>
    obtain ⟨ρ', h1, h2⟩ := b
    exact ⟨ρ', by unfold sIxX fV; rw [hm0, h1], h2⟩
  | ok r =>
    obtain ⟨ρ', h1, h2⟩ := b
    obtain ⟨m1, hm1⟩ := h2.val (h r.2) (v r.2)
    show ((immR (R.of (ixD (d r.2) r.1))).bnd _).post _ _
    cases hf : ixD (d r.2) r.1 with
    | none => trivial
    | some z =>
      show (R.bnd (if z.imm = true then R.ok z else .bad) _).post _ _
      split
      · rename_i hz
        obtain ⟨k2, e1, e2, _⟩ := ixX_ixD (k := kd (d r.2) (some [i])) hf
        have e2 := e2 hz
        subst e2
        exact ⟨ρ', by unfold sIxX fV; rw [hm0, h1]; simp only [hm1, e1], h2⟩
      · trivial
/-! arguments -/
theorem eaX_p {t : SA} {m : R (List D)} {vs : List (Option Nat)} (h : As t ps m vs) : Ea (sA t) ps XE (pR m) vs (fun _ => ps) := fun ρ e => post_bnd (h ρ e) nox fun ds ⟨l, el, hl, hk⟩ => ⟨l, ρ, by unfold sA; rw [el], hl, hk, e⟩
def consX (m1 : R (D × τ1)) (m2 : τ1 → R (List D × τ2)) : R (List D × (τ1 × τ2)) := m1.bnd fun r => (m2 r.2).bnd fun q => .ok (r.1 :: q.1, (r.2, q.2))
theorem eaX_c {s : SX} {t : SXA} {m1 : R (D × τ1)} {post1 : τ1 → List Pt} {m2 : τ1 → R (List D × τ2)} {post2 : τ1 → τ2 → List Pt} {vs : List (Option Nat)} (ha : Ex s ps XE m1 post1) (hb : ∀ x, Ea t (post1 x) XE (m2 x) vs (post2 x)) :
    Ea (sXC s t) ps XE (consX m1 m2) (none :: vs) (fun x => post2 x.1 x.2) := fun ρ e => by
  have a := ha ρ e
  unfold consX
  cases m1 with
  | bad => trivial
  | ex x =>
    obtain ⟨ρ', h1, h2⟩ := a
    exact ⟨ρ', by unfold sXC; rw [h1], h2⟩
  | ok r =>
    obtain ⟨ρ1, h1, h2⟩ := a
    have b := hb r.2 ρ1 h2
    have u : sXC s t ρ = (match t ρ1 with
      | .ok l ρ2 => .ok ((r.1, none) :: l) ρ2
      | .ex z ρ2 => .ex z ρ2
      | .bad => .bad) := by
      unfold sXC
      rw [h1]
      show (if okP (r.1.imm = true ∨ (none : Kd) = none) = true then _ else _) = _
      rw [if_pos (okP_iff.mpr (.inr rfl))]
      all_goals rfl
    show ((m2 r.2).bnd _).post _ _
    cases hm2 : m2 r.2 with
    | bad => trivial
    | ex x =>
      rw [hm2] at b
      obtain ⟨ρ', g1, g2⟩ := b
      exact ⟨ρ', by rw [u, g1], g2⟩
    | ok q =>
      rw [hm2] at b
      obtain ⟨l, ρ2, g1, g2, g3, g4⟩ := b
      exact ⟨(r.1, none) :: l, ρ2, by rw [u, g1], by rw [← g2]; rfl, ⟨rfl, g3⟩, g4⟩
def consV (d : τ → D) (m : R (List D × τ)) : R (List D × τ) := m.bnd fun r => .ok (d r.2 :: r.1, r.2)
theorem eaX_v {t : SXA} {i : Nat} {p0 : Pt} {d0 : D} {p : τ → Pt} {d : τ → D} {m : R (List D × τ)} {post : τ → List Pt} {vs : List (Option Nat)} (h0 : ps[i]? = some p0) (v0 : p0.val = some d0) (hb : Ea t ps XE m vs post) (h : ∀ t, (post t)[i]? = some (p t)) (v : ∀ t, (p t).val = some (d t)) :
    Ea (sXV i t) ps XE (consV d m) (some i :: vs) post := fun ρ e => by
  obtain ⟨m0, hm0⟩ := e.val h0 v0
  have b := hb ρ e
  unfold consV
  cases m with
  | bad => trivial
  | ex x =>
    obtain ⟨ρ', h1, h2⟩ := b
    exact ⟨ρ', by unfold sXV; rw [hm0, h1], h2⟩
  | ok r =>
    obtain ⟨l, ρ', h1, h2, h3, h4⟩ := b
    obtain ⟨m1, hm1⟩ := h4.val (h r.2) (v r.2)
    exact ⟨(d r.2, kd (d r.2) (some [i])) :: l, ρ', by unfold sXV; rw [hm0, h1]; simp only [hm1], by rw [← h2]; rfl, ⟨rfl, h3⟩, h4⟩
def consVI (d : τ → D) (m : R (List D × τ)) : R (List D × τ) := m.bnd fun r => if (d r.2).imm = true then .ok (d r.2 :: r.1, r.2) else .bad
theorem eaX_vi {t : SXA} {i : Nat} {p0 : Pt} {d0 : D} {p : τ → Pt} {d : τ → D} {m : R (List D × τ)} {post : τ → List Pt} {vs : List (Option Nat)} (h0 : ps[i]? = some p0) (v0 : p0.val = some d0) (hb : Ea t ps XE m vs post) (h : ∀ t, (post t)[i]? = some (p t)) (v : ∀ t, (p t).val = some (d t)) :
    Ea (sXV i t) ps XE (consVI d m) (none :: vs) post := fun ρ e => by
  obtain ⟨m0, hm0⟩ := e.val h0 v0
  have b := hb ρ e
  unfold consVI
  cases m with
  | bad => trivial
  | ex x =>
    obtain ⟨ρ', h1, h2⟩ := b
    exact ⟨ρ', by unfold sXV; rw [hm0, h1], h2⟩
  | ok r =>
    obtain ⟨l, ρ', h1, h2, h3, h4⟩ := b
    obtain ⟨m1, hm1⟩ := h4.val (h r.2) (v r.2)
    show (if (d r.2).imm = true then R.ok (d r.2 :: r.1, r.2) else .bad).post _ _
    split
    · rename_i hd
      exact ⟨(d r.2, kd (d r.2) (some [i])) :: l, ρ', by unfold sXV; rw [hm0, h1]; simp only [hm1], by rw [← h2]; rfl, ⟨by simp [kd, hd], h3⟩, h4⟩
    · trivial
def lstX (m : R (List D × τ)) : R (D × τ) := m.bnd fun r => if okP (r.1.length ≤ sizeLine) = true then .ok (.lst r.1, r.2) else .bad
def tupX (m : R (List D × τ)) : R (D × τ) := m.bnd fun r => if okP (r.1.length ≤ sizeLine) = true then .ok (.tup r.1, r.2) else .bad
theorem xe_lst {t : SXA} {m : R (List D × τ)} {post : τ → List Pt} {vs : List (Option Nat)} (h : Ea t ps XE m vs post) (hn : noVs vs = true) : Ex (sLstX t) ps XE (lstX m) post := fun ρ e => by
  have b := h ρ e
  unfold lstX
  cases m with
  | bad => trivial
  | ex x =>
    obtain ⟨ρ', h1, h2⟩ := b
    exact ⟨ρ', by unfold sLstX; rw [h1], h2⟩
  | ok r =>
    obtain ⟨l, ρ', h1, h2, h3, h4⟩ := b
    show (if okP (r.1.length ≤ sizeLine) = true then _ else _ : R _).post _ _
    split
    · rename_i hc
      rw [← h2, len_dsOf] at hc
      refine ⟨ρ', ?_, h4⟩
      unfold sLstX
      rw [h1]
      simp only [hc, if_true, argK_none h3 hn, kds_none, h2]
    · trivial
theorem xe_tup {t : SXA} {m : R (List D × τ)} {post : τ → List Pt} {vs : List (Option Nat)} (h : Ea t ps XE m vs post) (hn : noVs vs = true) : Ex (sTupX t) ps XE (tupX m) post := fun ρ e => by
  have b := h ρ e
  unfold tupX
  cases m with
  | bad => trivial
  | ex x =>
    obtain ⟨ρ', h1, h2⟩ := b
    exact ⟨ρ', by unfold sTupX; rw [h1], h2⟩
  | ok r =>
    obtain ⟨l, ρ', h1, h2, h3, h4⟩ := b
    show (if okP (r.1.length ≤ sizeLine) = true then _ else _ : R _).post _ _
    split
    · rename_i hc
      rw [← h2, len_dsOf] at hc
      refine ⟨ρ', ?_, h4⟩
      unfold sTupX
      rw [h1]
      simp only [hc, if_true, argK_none h3 hn, kds_none, h2]
    · trivial
def bltX (g : List D → Option D) (m : R (List D × τ)) : R (D × τ) := m.bnd fun r => (R.of (g r.1)).bnd fun z => .ok (z, r.2)
theorem xe_blt {g : List D → Option D} {t : SXA} {m : R (List D × τ)} {post : τ → List Pt} {vs : List (Option Nat)} (h : Ea t ps XE m vs post) : Ex (sCallX g t) ps XE (bltX g m) post := fun ρ e => by
  have b := h ρ e
  unfold bltX
  cases m with
  | bad => trivial
  | ex x =>
    obtain ⟨ρ', h1, h2⟩ := b
    exact ⟨ρ', by unfold sCallX; rw [h1], h2⟩
  | ok r =>
    obtain ⟨l, ρ', h1, h2, h3, h4⟩ := b
    show ((R.of (g r.1)).bnd _).post _ _
    cases hg : g r.1 with
    | none => trivial
    | some z => exact ⟨ρ', by unfold sCallX; rw [h1]; simp only [h2, hg], h4⟩
/-! calls that write their arguments -/
def cntT : List Bool → Nat → Nat
  | true :: io, j + 1 => cntT io j + 1
  | false :: io, j + 1 => cntT io j
  | _, _ => 0
def updAt (is : List (Option Nat)) (io : List Bool) (us : List D) (i : Nat) (p : Pt) : Pt := match posOf is i with
  | none => p
  | some j => p.upd (us.getD (cntT io j) .non)
def updI (is : List (Option Nat)) (io : List Bool) (us : List D) : Nat → List Pt → List Pt
  | _, [] => []
  | n, p :: ps => updAt is io us n p :: updI is io us (n + 1) ps
/-- the marked slots are one's own -/
def ioOwn (is : List (Option Nat)) : Nat → List Pt → Bool
  | _, [] => true
  | n, p :: ps => (match posOf is n with | none => true | some _ => p.own.isSome) && ioOwn is (n + 1) ps
/-- each mark is its argument's own, and no other argument's -/
def ioChk (is vs : List (Option Nat)) (io : List Bool) : Bool := is.length == vs.length && is.length == io.length && (List.range is.length).all fun j => match is.getD j none with
  | none => true
  | some i => io.getD j false && (List.range is.length).all fun j' => j' == j || (vs.getD j' none != some i && is.getD j' none != some i)
theorem sel_get : ∀ {io : List Bool} {us : List D} {j : Nat}, us.length = io.length → io[j]? = some true → us[j]? = some ((selIo io us).getD (cntT io j) .non)
  | [], us, j, _, h => by simp at h
  | o :: io, [], j, hl, h => by simp at hl
  | true :: io, u :: us, 0, hl, h => rfl
  | false :: io, u :: us, 0, hl, h => by simp at h
  | true :: io, u :: us, j + 1, hl, h => by
    have := sel_get (io := io) (us := us) (j := j) (by simpa using hl) (by simpa using h)
    simpa [selIo, cntT] using this
  | false :: io, u :: us, j + 1, hl, h => by
    have := sel_get (io := io) (us := us) (j := j) (by simpa using hl) (by simpa using h)
    simpa [selIo, cntT] using this
theorem updI_ok {is : List (Option Nat)} {io : List Bool} {us : List D} (hl : us.length = io.length) (hio : ∀ (j i : Nat), is[j]? = some (some i) → io[j]? = some true) : ∀ (n : Nat) (ps : List Pt) (ρ : DEnv), EPs ps ρ → ioOwn is n ps = true → EPs (updI is io (selIo io us) n ps) (ρ.mapIdx fun i => ioSetAt is us (n + i))
  | n, [], [], _, _ => trivial
  | n, [], _ :: _, h, _ => h.elim
  | n, _ :: _, [], h, _ => h.elim
  | n, p :: ps, x :: ρ, h, ho => by
    unfold ioOwn at ho
    rw [Bool.and_eq_true] at ho
    rw [List.mapIdx_cons]
    have ih := updI_ok hl hio (n + 1) ps ρ h.2 ho.2
    have e : (fun i => ioSetAt is us (n + (i + 1))) = fun i => ioSetAt is us (n + 1 + i) := by
      funext i
      congr 1
      omega
    refine ⟨?_, by rw [e]; exact ih⟩
    show (updAt is io (selIo io us) n p).ok (ioSetAt is us (n + 0) x)
    unfold updAt ioSetAt
    rw [Nat.add_zero]
    cases hp : posOf is n with
    | none => exact h.1
    | some j =>
      have hj := sel_get hl (hio j n (posOf_some hp))
      simp only [hj]
      have h1 := ho.1
      rw [hp] at h1
      cases p with
      | o d =>
        rw [show x = _ from h.1]
        rfl
      | a d =>
        rw [show x = _ from h.1]
        rfl
      | s d => simp [Pt.own] at h1
      | u => simp [Pt.own] at h1
theorem argK_len : ∀ {vs : List (Option Nat)} {l : List (D × Kd)}, ArgK vs l → vs.length = l.length
  | [], [], _ => rfl
  | [], _ :: _, h => h.elim
  | _ :: _, [], h => h.elim
  | v :: vs, p :: l, h => by rw [List.length_cons, List.length_cons, argK_len h.2]
theorem argK_get : ∀ {vs : List (Option Nat)} {l : List (D × Kd)} {j : Nat} {d : D} {R : List Nat}, ArgK vs l → l[j]? = some (d, some R) → ∃ v, vs[j]? = some (some v) ∧ R = [v]
  | [], [], j, d, R, _, e => by simp at e
  | [], _ :: _, _, _, _, h, _ => h.elim
  | _ :: _, [], _, _, _, h, _ => h.elim
  | v :: vs, (d', k) :: l, 0, d, R, h, e => by
    have e : (d', k) = (d, some R) := by simpa using e
    obtain ⟨rfl, rfl⟩ := Prod.mk.inj e
    cases v with
    | none => exact absurd h.1 (by simp)
    | some i =>
      have h1 : some R = kd d' (some [i]) := h.1
      unfold kd at h1
      split at h1
      · cases h1
      · cases h1; exact ⟨i, rfl, rfl⟩
  | v :: vs, (d', k) :: l, j + 1, d, R, h, e => argK_get (j := j) h.2 (by simpa using e)
theorem EPs_own_of {is : List (Option Nat)} : ∀ {n : Nat} {ps : List Pt} {ρ : DEnv}, EPs ps ρ → ioOwn is n ps = true → ∀ i j d m, posOf is (n + i) = some j → ρ[i]? = some (some (d, m)) → m.o = true
  | n, [], [], _, _, i, j, d, m, _, e => by simp at e
  | n, [], _ :: _, h, _, _, _, _, _, _, _ => h.elim
  | n, _ :: _, [], h, _, _, _, _, _, _, _ => h.elim
  | n, p :: ps, x :: ρ, h, ho, 0, j, d, m, hp, e => by
    unfold ioOwn at ho
    rw [Bool.and_eq_true] at ho
    have h1 := ho.1
    rw [Nat.add_zero] at hp
    rw [hp] at h1
    have e : x = some (d, m) := by simpa using e
    subst e
    cases p with
    | o d' => have := h.1; cases this; rfl
    | a d' => have := h.1; cases this; rfl
    | s d' => simp [Pt.own] at h1
    | u => simp [Pt.own] at h1
  | n, p :: ps, x :: ρ, h, ho, i + 1, j, d, m, hp, e => by
    unfold ioOwn at ho
    rw [Bool.and_eq_true] at ho
    exact EPs_own_of (n := n + 1) h.2 ho.2 i j d m (by rw [show n + 1 + i = n + (i + 1) by omega]; exact hp) (by simpa using e)
theorem posOf_ex : ∀ {is : List (Option Nat)} {i j : Nat}, is[j]? = some (some i) → ∃ j', posOf is i = some j'
  | is, i, j, h => by
    cases hp : posOf is i with
    | none => exact absurd h (posOf_none hp)
    | some j' => exact ⟨j', rfl⟩
def callX (p : List D → R (D × List D)) (m : R (List D × τ)) : R (D × (τ × List D)) := m.bnd fun r => (p r.1).noex.bnd fun q => .ok (q.1, (r.2, q.2))
theorem xe_call {gf : FS} {is : List (Option Nat)} {io : List Bool} {p : List D → R (D × List D)} {t : SXA} {m : R (List D × τ)} {post : τ → List Pt} {vs : List (Option Nat)} (c : FRef gf io p) (ht : Ea t ps XE m vs post) (hc : ioChk is vs io = true) (ho : ∀ t, ioOwn is 0 (post t) = true) :
    Ex (sCallIO gf is t) ps XE (callX p m) (fun x => updI is io x.2 0 (post x.1)) := fun ρ e => by
  have b := ht ρ e
  unfold ioChk at hc
  rw [Bool.and_eq_true, Bool.and_eq_true, List.all_eq_true] at hc
  obtain ⟨⟨hl1, hl2⟩, hc⟩ := hc
  have hl1 : is.length = vs.length := by simpa using hl1
  have hl2 : is.length = io.length := by simpa using hl2
  have hck : ∀ j i, is[j]? = some (some i) → io[j]? = some true ∧ ∀ j', j' < is.length → j' ≠ j → vs[j']? ≠ some (some i) ∧ is[j']? ≠ some (some i) := by
    intro j i hj
    have hlt : j < is.length := by
      rcases Nat.lt_or_ge j is.length with h | h
      · exact h
      · rw [List.getElem?_eq_none h] at hj; cases hj
    have := hc j (List.mem_range.mpr hlt)
    have g1 : is.getD j none = some i := by rw [List.getD_eq_getElem?_getD, hj]; rfl
    rw [g1] at this
    simp only [Bool.and_eq_true, List.all_eq_true] at this
    refine ⟨?_, fun j' hj' hne => ?_⟩
    · have h1 := this.1
      rw [List.getD_eq_getElem?_getD] at h1
      cases hio : io[j]? with
      | none => rw [hio] at h1; cases h1
      | some o => rw [hio] at h1; exact congrArg some h1
    · have h2 := this.2 j' (List.mem_range.mpr hj')
      rw [Bool.or_eq_true] at h2
      rcases h2 with h2 | h2
      · exact absurd (by simpa using h2) hne
      · rw [Bool.and_eq_true] at h2
        refine ⟨fun e => ?_, fun e => ?_⟩
        · have := h2.1
          rw [List.getD_eq_getElem?_getD, e] at this
          simp at this
        · have := h2.2
          rw [List.getD_eq_getElem?_getD, e] at this
          simp at this
  unfold callX
  cases m with
  | bad => trivial
  | ex x =>
    obtain ⟨ρ', h1, h2⟩ := b
    exact ⟨ρ', by unfold sCallIO; rw [h1], h2⟩
  | ok r =>
    obtain ⟨l, ρ', h1, h2, h3, h4⟩ := b
    show ((p r.1).noex.bnd _).post _ _
    have hp := c r.1
    cases hpr : p r.1 with
    | bad => trivial
    | ex x => trivial
    | ok q =>
      rw [hpr] at hp
      obtain ⟨_, us, g1, g2, g3⟩ := hp
      have hio : IoOk is l ρ' := by
        refine ⟨by rw [← argK_len h3, hl1], fun j i hj => ⟨fun d mm hd => ?_, fun j' hj' => ?_, fun j' d' R hne hl' hR => ?_⟩⟩
        · obtain ⟨j0, hj0⟩ := posOf_ex hj
          exact EPs_own_of (n := 0) h4 (ho r.2) i j0 d mm (by simpa using hj0) hd
        · by_cases hne : j' = j
          · exact hne
          · have hlt : j' < is.length := by
              rcases Nat.lt_or_ge j' is.length with h | h
              · exact h
              · rw [List.getElem?_eq_none h] at hj'; cases hj'
            exact absurd hj' ((hck j i hj).2 j' hlt hne).2
        · obtain ⟨v, hv, rfl⟩ := argK_get h3 hl'
          have hlt : j' < is.length := by
            rw [hl1]
            rcases Nat.lt_or_ge j' vs.length with h | h
            · exact h
            · rw [List.getElem?_eq_none h] at hv; cases hv
          have : i = v := by simpa using hR
          subst this
          exact absurd hv ((hck j i hj).2 j' hlt hne).1
      refine ⟨ioSet is us ρ', ?_, ?_⟩
      · unfold sCallIO
        rw [h1]
        simp only
        rw [if_pos (okP_iff.mpr hio), h2, g1]
      · have := updI_ok (n := 0) g2 (fun j i hj => (hck j i hj).1) (post r.2) ρ' h4 (ho r.2)
        rw [g3] at this
        show EPs _ (ρ'.mapIdx (ioSetAt is us))
        simpa using this
end DL
end DLsec26
set_option maxRecDepth 100000
noncomputable section DLsec27
/-! DL27: plain functions: statements, loops, defs. -/
namespace DL
open PySem PySem.Spec PyProof.Rows L2
variable {ps : List Pt} {τ τ1 τ2 ω : Type} {XE : DEnv → Prop} {X : Out → ω → Prop}
def TL (S : SS) (ps : List Pt) (X : Out → ω → Prop) (XE : DEnv → Prop) (m : R ω) : Prop := ∀ ρ, EPs ps ρ → m.post (fun w => X (S ρ) w) (fun x => ∃ ρ', S ρ = .ex x ρ' ∧ XE ρ')
theorem seq_nx {a b : SS} {ρ ρ1 : DEnv} (h : a ρ = .nx ρ1) : sSeq a b ρ = b ρ1 := by unfold sSeq; rw [h]
theorem seq_ex {a b : SS} {ρ ρ1 : DEnv} {x : Xn} (h : a ρ = .ex x ρ1) : sSeq a b ρ = .ex x ρ1 := by unfold sSeq; rw [h]
theorem seq_rt {a b : SS} {ρ ρ1 : DEnv} {d : D} (h : a ρ = .rt d ρ1) : sSeq a b ρ = .rt d ρ1 := by unfold sSeq; rw [h]
theorem seq_ct {a b : SS} {ρ ρ1 : DEnv} (h : a ρ = .ct ρ1) : sSeq a b ρ = .ct ρ1 := by unfold sSeq; rw [h]
theorem seq_bk {a b : SS} {ρ ρ1 : DEnv} (h : a ρ = .bk ρ1) : sSeq a b ρ = .bk ρ1 := by unfold sSeq; rw [h]
theorem seq_nil {a : SS} {ρ : DEnv} : sSeq a sNil ρ = a ρ := by
  unfold sSeq sNil
  cases a ρ <;> rfl
theorem seq_assoc {a b c : SS} {ρ : DEnv} : sSeq (sSeq a b) c ρ = sSeq a (sSeq b c) ρ := by
  unfold sSeq
  cases a ρ <;> rfl
section
variable {S a b rest : SS} {m : R ω}
theorem tl_last (h : TL (sSeq S sNil) ps X XE m) : TL S ps X XE m := fun ρ e => by
  have := h ρ e
  rw [seq_nil] at this
  exact this
theorem tl_assoc (h : TL (sSeq a (sSeq b rest)) ps X XE m) : TL (sSeq (sSeq a b) rest) ps X XE m := fun ρ e => by
  have := h ρ e
  rw [← seq_assoc] at this
  exact this
theorem tl_nilS (h : TL rest ps X XE m) : TL (sSeq sNil rest) ps X XE m := fun ρ e => h ρ e
/-- a first statement that is done, and the rest -/
theorem tl_step {α : Type} {a rest : SS} {m : R α} {k : α → R ω} {P : α → DEnv → Prop} (h : ∀ ρ, EPs ps ρ → m.post (fun t => ∃ ρ', a ρ = .nx ρ' ∧ P t ρ') (fun x => ∃ ρ', a ρ = .ex x ρ' ∧ XE ρ')) (hk : ∀ t ρ', P t ρ' → (k t).post (fun w => X (rest ρ') w) (fun x => ∃ ρ2, rest ρ' = .ex x ρ2 ∧ XE ρ2)) :
    TL (sSeq a rest) ps X XE (m.bnd k) := fun ρ e => by
  have b := h ρ e
  cases m with
  | bad => trivial
  | ex x =>
    obtain ⟨ρ', h1, h2⟩ := b
    exact ⟨ρ', seq_ex h1, h2⟩
  | ok t =>
    obtain ⟨ρ', h1, h2⟩ := b
    have c := hk t ρ' h2
    rw [← seq_nx (b := rest) h1] at c
    exact c
theorem tl_asgE {s : SE} {i : Nat} {p : Pt} {ms : R D} {k : D → R ω} (hs : Ef s ps ms) (h : ps[i]? = some p) (v : p.na = true) (hk : ∀ d, TL rest (ps.set i (.o d)) X XE (k d)) : TL (sSeq (sAsg (sX s) (setS i)) rest) ps X XE (ms.bnd k) :=
  tl_step (P := fun d ρ' => EPs (ps.set i (.o d)) ρ') (fun ρ e => post_mono (hs ρ e) (fun d ed => ⟨ρ.set i (some (d, .own)), by unfold sAsg sX; rw [show s ρ = _ from ed]; simp only [e.setS h v], e.set rfl⟩) nox) (fun d ρ' e => hk d ρ' e)
def bnd2 {α β γ : Type} (m : R (α × β)) (k : α → β → R γ) : R γ := m.bnd fun r => k r.1 r.2
theorem tl_asg {s : SX} {i : Nat} {p : τ → Pt} {ms : R (D × τ)} {post : τ → List Pt} {k : D → τ → R ω} (hs : Ex s ps XE ms post) (h : ∀ t, (post t)[i]? = some (p t)) (v : ∀ t, (p t).na = true) (hk : ∀ d t, TL rest ((post t).set i (.o d)) X XE (k d t)) : TL (sSeq (sAsg s (setS i)) rest) ps X XE (bnd2 ms k) :=
  tl_step (P := fun r ρ' => EPs ((post r.2).set i (.o r.1)) ρ') (fun ρ e => post_mono (hs ρ e) (fun r ⟨ρ', h1, h2⟩ => ⟨ρ'.set i (some (r.1, .own)), by unfold sAsg; rw [h1]; simp only [h2.setS (h r.2) (v r.2)], h2.set rfl⟩) (fun x ⟨ρ', h1, h2⟩ => ⟨ρ', by unfold sAsg; rw [h1], h2⟩)) (fun r ρ' e => hk r.1 r.2 ρ' e)
/-- .. to several names -/
theorem tl_asgT {σ : Type} {s : SX} {g : SG} {ms : R (D × τ)} {post : τ → List Pt} {tp : τ → D → R σ} {post2 : τ → σ → List Pt} {k : σ → τ → R ω} (hs : Ex s ps XE ms post) (hg : ∀ t, Tg g none (post t) (tp t) (post2 t)) (hk : ∀ d t, TL rest (post2 t d) X XE (k d t)) :
    TL (sSeq (sAsg s g) rest) ps X XE (bnd2 ms fun d t => (tp t d).bnd fun q => k q t) := by
  have e0 : (bnd2 ms fun d t => (tp t d).bnd fun q => k q t) = (bnd2 ms fun d t => (tp t d).bnd fun q => R.ok (q, t)).bnd fun z => k z.1 z.2 := by
    unfold bnd2
    cases ms with
    | bad => rfl
    | ex x => rfl
    | ok r =>
      show (tp r.2 r.1).bnd _ = ((tp r.2 r.1).bnd _).bnd _
      cases tp r.2 r.1 <;> rfl
  rw [e0]
  refine tl_step (P := fun z ρ' => EPs (post2 z.2 z.1) ρ') (fun ρ e => ?_) (fun z ρ' e => hk z.1 z.2 ρ' e)
  have b := hs ρ e
  cases ms with
  | bad => trivial
  | ex x =>
    obtain ⟨ρ', h1, h2⟩ := b
    exact ⟨ρ', by unfold sAsg; rw [h1], h2⟩
  | ok r =>
    obtain ⟨ρ', h1, h2⟩ := b
    show ((tp r.2 r.1).bnd _).post _ _
    refine post_bnd (hg r.2 ρ' h2 r.1) nox fun q ⟨ρ2, g1, g2⟩ => ⟨ρ2, ?_, g2⟩
    unfold sAsg
    rw [h1]
    simp only [g1]
theorem tl_drop {s : SX} {ms : R (D × τ)} {post : τ → List Pt} {k : τ → R ω} (hs : Ex s ps XE ms post) (hk : ∀ t, TL rest (post t) X XE (k t)) : TL (sSeq (sDrop s) rest) ps X XE (bnd2 ms fun _ t => k t) :=
  tl_step (P := fun r ρ' => EPs (post r.2) ρ') (fun ρ e => post_mono (hs ρ e) (fun r ⟨ρ', h1, h2⟩ => ⟨ρ', by unfold sDrop; rw [h1], h2⟩) (fun x ⟨ρ', h1, h2⟩ => ⟨ρ', by unfold sDrop; rw [h1], h2⟩)) (fun r ρ' e => hk r.2 ρ' e)
/-- x[i] = y -/
def setD (d : D) (j y : D) : R D := match d, j with
  | .lst ds, .int j => (match ixN ds.length j with | some n => .ok (.lst (ds.set n y)) | none => .bad)
  | _, _ => .bad
def setR (d : D) (mi ms : R D) : R D := mi.bnd fun j => ms.bnd fun y => setD d j y
theorem tl_setIx {ix : SE} {s : SE} {i : Nat} {p : Pt} {d : D} {mi ms : R D} {k : D → R ω} (hi : Ee ix ps mi) (hs : Ef s ps ms) (h : ps[i]? = some p) (v : p.own = some d) (hk : ∀ d', TL rest (ps.set i (p.upd d')) X XE (k d')) :
    TL (sSeq (sSetIx i ix (sX s)) rest) ps X XE ((setR d mi ms).bnd k) :=
  tl_step (P := fun d' ρ' => EPs (ps.set i (p.upd d')) ρ') (fun ρ e => post_bnd (hi ρ e) nox fun j ⟨kj, ej⟩ => post_bnd (hs ρ e) nox fun y ey => by
    obtain ⟨m, h1, h2, h3⟩ := e.own h v
    have ey : s ρ = some (y, none) := ey
    unfold setD
    split
    · rename_i ds j' _
      split
      · rename_i n hn
        refine ⟨ρ.set i (some (.lst (ds.set n y), m)), ?_, e.set (h3 _)⟩
        unfold sSetIx sX
        rw [ey]
        simp only [ej, h1]
        rw [if_pos (okP_iff.mpr ⟨h2, .inr trivial⟩)]
        simp only [hn]
      · trivial
    · trivial) (fun d ρ' e => hk d ρ' e)
def augR (f : Int → Int → Int) (d0 : D) (ms : R (D × τ)) : R (D × τ) := match d0 with
  | .int n => ms.bnd (fun r => match r.1 with | .int j => .ok (.int (f n j), r.2) | _ => .bad)
  | _ => .bad
theorem tl_aug {f : Int → Int → Int} {s : SX} {i : Nat} {p0 : Pt} {d0 : D} {p : τ → Pt} {ms : R (D × τ)} {post : τ → List Pt} {k : D → τ → R ω} (h0 : ps[i]? = some p0) (v0 : p0.val = some d0) (hs : Ex s ps XE ms post) (h : ∀ t, (post t)[i]? = some (p t)) (v : ∀ t, (p t).na = true) (hk : ∀ d t, TL rest ((post t).set i (.o d)) X XE (k d t)) :
    TL (sSeq (sAug i f s) rest) ps X XE (bnd2 (augR f d0 ms) k) :=
  tl_step (P := fun r ρ' => EPs ((post r.2).set i (.o r.1)) ρ') (fun ρ e => by
    obtain ⟨m0, hm0⟩ := e.val h0 v0
    cases d0 with
    | int n =>
      show (ms.bnd _).post _ _
      have b := hs ρ e
      cases ms with
      | bad => trivial
      | ex x =>
        obtain ⟨ρ', h1, h2⟩ := b
        exact ⟨ρ', by unfold sAug; rw [hm0]; simp only [h1], h2⟩
      | ok r =>
        obtain ⟨ρ', h1, h2⟩ := b
        show (match r.1 with | .int j => R.ok (D.int (f n j), r.2) | _ => R.bad).post _ _
        cases hr : r.1 with
        | int j =>
          refine ⟨ρ'.set i (some (.int (f n j), .own)), ?_, h2.set rfl⟩
          unfold sAug
          rw [hm0]
          simp only [h1, hr, h2.setS (d := .int (f n j)) (h r.2) (v r.2)]
        | _ => trivial
    | _ => trivial) (fun r ρ' e => hk r.1 r.2 ρ' e)
/-! branches -/
theorem tl_if {c : ST} {mc : R Bool} {ma mb : R ω} (hc : Et c ps mc) (ha : TL (sSeq a rest) ps X XE ma) (hb : TL (sSeq b rest) ps X XE mb) : TL (sSeq (sIfS (sB c) a b) rest) ps X XE (iteR mc ma mb) := fun ρ e =>
  post_bnd (hc ρ e) nox fun x ex => by
    have ex : c ρ = some x := ex
    cases x with
    | true =>
      rw [if_pos rfl]
      have u : sSeq (sIfS (sB c) a b) rest ρ = sSeq a rest ρ := by unfold sSeq sIfS sB; rw [ex]
      rw [u]
      exact ha ρ e
    | false =>
      rw [if_neg (by simp)]
      have u : sSeq (sIfS (sB c) a b) rest ρ = sSeq b rest ρ := by unfold sSeq sIfS sB; rw [ex]
      rw [u]
      exact hb ρ e
def ifX {α : Type} (m : R (D × τ)) (ka kb : τ → R α) : R α := m.bnd fun r => match r.1 with | .bl true => ka r.2 | .bl false => kb r.2 | _ => .bad
theorem tl_ifX {s : SX} {ms : R (D × τ)} {post : τ → List Pt} {ka kb : τ → R ω} (hs : Ex s ps XE ms post) (ha : ∀ t, TL (sSeq a rest) (post t) X XE (ka t)) (hb : ∀ t, TL (sSeq b rest) (post t) X XE (kb t)) : TL (sSeq (sIfS (sXB s) a b) rest) ps X XE (ifX ms ka kb) := fun ρ e => by
  have h := hs ρ e
  unfold ifX
  cases ms with
  | bad => trivial
  | ex x =>
    obtain ⟨ρ', h1, h2⟩ := h
    exact ⟨ρ', by unfold sSeq sIfS sXB; rw [h1], h2⟩
  | ok r =>
    obtain ⟨ρ', h1, h2⟩ := h
    show (match r.1 with | .bl true => ka r.2 | .bl false => kb r.2 | _ => .bad : R ω).post _ _
    cases hr : r.1 with
    | bl x =>
      rw [hr] at h1
      cases x with
      | true =>
        have u : sSeq (sIfS (sXB s) a b) rest ρ = sSeq a rest ρ' := by unfold sSeq sIfS sXB; rw [h1]
        rw [u]
        exact ha r.2 ρ' h2
      | false =>
        have u : sSeq (sIfS (sXB s) a b) rest ρ = sSeq b rest ρ' := by unfold sSeq sIfS sXB; rw [h1]
        rw [u]
        exact hb r.2 ρ' h2
    | _ => trivial
/-! where ways meet -/
def Wk (ps ps' : List Pt) : Prop := ∀ ρ, EPs ps ρ → EPs ps' ρ
theorem wk_refl : Wk ps ps := fun _ h => h
theorem wkN : Wk [] [] := fun _ h => h
theorem wkC {p p' : Pt} {ps ps' : List Pt} (h : ∀ x, p.ok x → p'.ok x) (t : Wk ps ps') : Wk (p :: ps) (p' :: ps') := fun ρ e => by
  cases ρ with
  | nil => exact e.elim
  | cons x ρ => exact ⟨h x e.1, t ρ e.2⟩
theorem pw_r {p : Pt} : ∀ x, p.ok x → p.ok x := fun _ h => h
theorem pw_os {d : D} : ∀ x, (Pt.o d).ok x → (Pt.s d).ok x := fun x h => ⟨.own, h, by decide⟩
theorem pw_ou {d : D} : ∀ x, (Pt.o d).ok x → Pt.u.ok x := fun x h d' e => by rw [show x = _ from h] at e; cases e
theorem pw_su {d : D} : ∀ x, (Pt.s d).ok x → Pt.u.ok x := fun x ⟨m, h, hm⟩ d' e => by rw [h] at e; cases e; exact hm rfl
def XJ (post : τ → List Pt) (o : Out) (t : τ) : Prop := ∃ ρ', o = .nx ρ' ∧ EPs (post t) ρ'
theorem tl_endJ {post : τ → List Pt} {t : τ} (h : Wk ps (post t)) : TL sNil ps (XJ post) XE (.ok t) := fun ρ e => ⟨ρ, rfl, h ρ e⟩
theorem tl_join {J : SS} {post : τ → List Pt} {mj : R τ} {k : τ → R ω} (hj : TL J ps (XJ post) XE mj) (hk : ∀ t, TL rest (post t) X XE (k t)) : TL (sSeq J rest) ps X XE (mj.bnd k) :=
  tl_step (P := fun t ρ' => EPs (post t) ρ') hj (fun t ρ' e => hk t ρ' e)
/-! loops -/
inductive Step (τ ω : Type) where
  | nx (t : τ) | bk (t : τ) | rt (w : ω)
def XL (post : τ → List Pt) (o : Out) (t : τ) : Prop := ∃ ρ', (o = .nx ρ' ∨ o = .ct ρ') ∧ EPs (post t) ρ'
def XS (post : τ → List Pt) (Xr : Out → ω → Prop) (o : Out) (s : Step τ ω) : Prop := match s with
  | .nx t => XL post o t
  | .bk t => ∃ ρ', o = .bk ρ' ∧ EPs (post t) ρ'
  | .rt w => (∃ d ρ', o = .rt d ρ') ∧ Xr o w
theorem tl_endL {post : τ → List Pt} {t : τ} (h : Wk ps (post t)) : TL sNil ps (XL post) XE (.ok t) := fun ρ e => ⟨ρ, .inl rfl, h ρ e⟩
theorem tl_endS {post : τ → List Pt} {Xr : Out → ω → Prop} {t : τ} (h : Wk ps (post t)) : TL sNil ps (XS post Xr) XE (.ok (.nx t)) := fun ρ e => ⟨ρ, .inl rfl, h ρ e⟩
theorem tl_contL {post : τ → List Pt} {t : τ} (h : Wk ps (post t)) : TL (sSeq sCont rest) ps (XL post) XE (.ok t) := fun ρ e => ⟨ρ, .inr rfl, h ρ e⟩
theorem tl_contS {post : τ → List Pt} {Xr : Out → ω → Prop} {t : τ} (h : Wk ps (post t)) : TL (sSeq sCont rest) ps (XS post Xr) XE (.ok (.nx t)) := fun ρ e => ⟨ρ, .inr rfl, h ρ e⟩
def forN {τ : Type} (f : D → τ → R τ) : List D → τ → R τ
  | [], t => .ok t
  | x :: xs, t => (f x t).bnd (forN f xs)
def forS {τ ω : Type} (f : D → τ → R (Step τ ω)) : List D → τ → R (Step τ ω)
  | [], t => .ok (.nx t)
  | x :: xs, t => (f x t).bnd fun s => match s with
    | .nx t' => forS f xs t'
    | .bk t' => .ok (.nx t')
    | .rt w => .ok (.rt w)
def Pt.frz : Pt → Pt
  | .o d => .s d
  | p => p
def frzP (κ : Kd) (ps : List Pt) : List Pt := match κ with
  | some [i] => (match ps[i]? with | some p => ps.set i p.frz | none => ps)
  | _ => ps
def frzOk (κ : Kd) (ps : List Pt) : Bool := match κ with
  | none => true
  | some [i] => (match ps[i]? with | some p => p.na | none => false)
  | _ => false
theorem frz_one : ∀ {ρ : DEnv} {i n : Nat} {x : Sl}, ρ[i]? = some x → (∀ d, x ≠ some (d, .arg)) → DL.frz [n + i] n ρ = some (ρ.set i (match x with | some (d, .own) => some (d, .shr) | y => y))
  | [], i, n, x, h, _ => by simp at h
  | y :: r, 0, n, x, h, hx => by
    have e : y = x := by simpa using h
    subst e
    have nn : DL.frz [n] (n + 1) r = some r := by
      have : ∀ (r : DEnv) (k : Nat), n < k → DL.frz [n] k r = some r := by
        intro r
        induction r with
        | nil => intro k _; rfl
        | cons z r ih =>
          intro k hk
          unfold DL.frz
          rw [ih (k + 1) (by omega)]
          have hne : k ≠ n := by omega
          simp [hne]
      exact this r (n + 1) (by omega)
    unfold DL.frz
    rw [Nat.add_zero, nn]
    simp only [List.contains_cons, List.contains_nil, Bool.or_false, BEq.rfl, if_true]
    cases y with
    | none => rfl
    | some p =>
      obtain ⟨d, m⟩ := p
      cases m with
      | own => rfl
      | shr => rfl
      | arg => exact absurd rfl (hx d)
  | y :: r, i + 1, n, x, h, hx => by
    unfold DL.frz
    have := frz_one (n := n + 1) (i := i) (ρ := r) (by simpa using h) hx
    rw [show n + (i + 1) = n + 1 + i by omega, this]
    have hne : n ≠ n + 1 + i := by omega
    simp [hne]
theorem EPs.frzK {κ : Kd} {ρ : DEnv} (e : EPs ps ρ) (h : frzOk κ ps = true) : ∃ ρ', DL.frzK κ ρ = some ρ' ∧ EPs (frzP κ ps) ρ' := by
  unfold frzOk at h
  unfold frzP DL.frzK
  split at h
  · exact ⟨ρ, rfl, e⟩
  · rename_i i
    split at h
    · rename_i p hp
      obtain ⟨x, hx, ha⟩ := e.na hp h
      simp only [hp]
      have := frz_one (n := 0) hx ha
      rw [Nat.zero_add] at this
      refine ⟨_, this, e.set ?_⟩
      obtain ⟨x', hx', hpx⟩ := e.get hp
      rw [hx] at hx'
      cases hx'
      cases p with
      | o d => rw [show x = _ from hpx]; exact ⟨.shr, rfl, by decide⟩
      | s d =>
        obtain ⟨m, rfl, hm⟩ := hpx
        cases m with
        | own => exact ⟨.shr, rfl, by decide⟩
        | shr => exact ⟨.shr, rfl, by decide⟩
        | arg => exact absurd rfl hm
      | a d => cases h
      | u =>
        intro d
        cases x with
        | none => simp
        | some q =>
          obtain ⟨d', m⟩ := q
          cases m with
          | own => simp
          | shr => simp
          | arg => exact absurd rfl (hpx d')
    · cases h
  · cases h
theorem loop_N {σ : Type} {g : SG} {body : SS} {post : τ → List Pt} {tp : D → R σ} {ptb : σ → τ → List Pt} {fb : σ → τ → R τ} (hg : ∀ t, Tg g (some []) (post t) tp (fun s => ptb s t)) (hb : ∀ s t, TL body (ptb s t) (XL post) XE (fb s t)) :
    ∀ (xs : List D) (t : τ) (ρ : DEnv), EPs (post t) ρ → (forN (fun x t => (tp x).bnd fun s => fb s t) xs t).post (fun t' => ∃ ρ', loopS g body xs ρ = .nx ρ' ∧ EPs (post t') ρ') (fun x => ∃ ρ', loopS g body xs ρ = .ex x ρ' ∧ XE ρ')
  | [], t, ρ, e => ⟨ρ, rfl, e⟩
  | x :: xs, t, ρ, e => by
    have h1 := hg t ρ e x
    show (((tp x).bnd fun s => fb s t).bnd _).post _ _
    cases htp : tp x with
    | bad => trivial
    | ex z => rw [htp] at h1; exact h1.elim
    | ok s =>
      rw [htp] at h1
      obtain ⟨ρ1, g1, g2⟩ := h1
      have h2 := hb s t ρ1 g2
      show ((fb s t).bnd _).post _ _
      cases hf : fb s t with
      | bad => trivial
      | ex z =>
        rw [hf] at h2
        obtain ⟨ρ', q1, q2⟩ := h2
        exact ⟨ρ', by rw [loopS, g1]; simp only [q1], q2⟩
      | ok t' =>
        rw [hf] at h2
        obtain ⟨ρ', q1, q2⟩ := h2
        have ih := loop_N hg hb xs t' ρ' q2
        have u : loopS g body (x :: xs) ρ = loopS g body xs ρ' := by
          rw [loopS, g1]
          rcases q1 with q1 | q1 <;> simp only [q1]
        rw [u]
        exact ih
theorem tl_for {σ : Type} {it : SI} {κ : Kd} {mi : R (List D)} {g : SG} {body : SS} {post : τ → List Pt} {tp : D → R σ} {ptb : σ → τ → List Pt} {fb : σ → τ → R τ} {k : τ → R ω} (t0 : τ) (hi : Eik it κ ps mi) (hf : frzOk κ ps = true) (hw : Wk (frzP κ ps) (post t0))
    (hg : ∀ t, Tg g (some []) (post t) tp (fun s => ptb s t)) (hb : ∀ s t, TL body (ptb s t) (XL post) XE (fb s t)) (hk : ∀ t, TL rest (post t) X XE (k t)) :
    TL (sSeq (sFor it g body) rest) ps X XE ((mi.bnd fun xs => forN (fun x t => (tp x).bnd fun s => fb s t) xs t0).bnd k) :=
  tl_step (P := fun t ρ' => EPs (post t) ρ') (fun ρ e => post_bnd (hi ρ e) nox fun ds eds => by
    obtain ⟨ρ1, h1, h2⟩ := e.frzK hf
    have u : sFor it g body ρ = loopS g body ds ρ1 := by
      unfold sFor
      rw [show it ρ = some (ds, κ) from eds]
      simp only [h1]
    rw [u]
    exact loop_N hg hb ds t0 ρ1 (hw ρ1 h2)) (fun t ρ' e => hk t ρ' e)
theorem loop_S {σ ω2 : Type} {Xr : Out → ω2 → Prop} {g : SG} {body : SS} {post : τ → List Pt} {tp : D → R σ} {ptb : σ → τ → List Pt} {fb : σ → τ → R (Step τ ω2)} (hg : ∀ t, Tg g (some []) (post t) tp (fun s => ptb s t)) (hb : ∀ s t, TL body (ptb s t) (XS post Xr) XE (fb s t)) :
    ∀ (xs : List D) (t : τ) (ρ : DEnv), EPs (post t) ρ → (forS (fun x t => (tp x).bnd fun s => fb s t) xs t).post (fun s => match s with
      | .nx t' => ∃ ρ', loopS g body xs ρ = .nx ρ' ∧ EPs (post t') ρ'
      | .bk _ => False
      | .rt w => (∃ d ρ', loopS g body xs ρ = .rt d ρ') ∧ Xr (loopS g body xs ρ) w) (fun x => ∃ ρ', loopS g body xs ρ = .ex x ρ' ∧ XE ρ')
  | [], t, ρ, e => ⟨ρ, rfl, e⟩
  | x :: xs, t, ρ, e => by
    have h1 := hg t ρ e x
    show (((tp x).bnd fun s => fb s t).bnd _).post _ _
    cases htp : tp x with
    | bad => trivial
    | ex z => rw [htp] at h1; exact h1.elim
    | ok s =>
      rw [htp] at h1
      obtain ⟨ρ1, g1, g2⟩ := h1
      have h2 := hb s t ρ1 g2
      show ((fb s t).bnd _).post _ _
      cases hf : fb s t with
      | bad => trivial
      | ex z =>
        rw [hf] at h2
        obtain ⟨ρ', q1, q2⟩ := h2
        exact ⟨ρ', by rw [loopS, g1]; simp only [q1], q2⟩
      | ok st =>
        rw [hf] at h2
        cases st with
        | nx t' =>
          obtain ⟨ρ', q1, q2⟩ := h2
          have ih := loop_S hg hb xs t' ρ' q2
          have u : loopS g body (x :: xs) ρ = loopS g body xs ρ' := by
            rw [loopS, g1]
            rcases q1 with q1 | q1 <;> simp only [q1]
          rw [u]
          exact ih
        | bk t' =>
          obtain ⟨ρ', q1, q2⟩ := h2
          exact ⟨ρ', by rw [loopS, g1]; simp only [q1], q2⟩
        | rt w =>
          obtain ⟨⟨d, ρ', q1⟩, q2⟩ := h2
          have u : loopS g body (x :: xs) ρ = .rt d ρ' := by rw [loopS, g1]; simp only [q1]
          rw [q1] at q2
          show (∃ d ρ', loopS g body (x :: xs) ρ = .rt d ρ') ∧ Xr (loopS g body (x :: xs) ρ) w
          rw [u]
          exact ⟨⟨d, ρ', rfl⟩, q2⟩
/-- behind a loop that may return -/
def thenS {τ ω : Type} (m : R (Step τ ω)) (k : τ → R ω) : R ω := m.bnd fun s => match s with
  | .nx t => k t
  | .bk t => k t
  | .rt w => .ok w
theorem tl_thenS {a : SS} {ms : R (Step τ ω)} {post : τ → List Pt} {k : τ → R ω} (h : ∀ ρ, EPs ps ρ → ms.post (fun s => match s with
      | .nx t' => ∃ ρ', a ρ = .nx ρ' ∧ EPs (post t') ρ'
      | .bk _ => False
      | .rt w => (∃ d ρ', a ρ = .rt d ρ') ∧ X (a ρ) w) (fun x => ∃ ρ', a ρ = .ex x ρ' ∧ XE ρ')) (hk : ∀ t, TL rest (post t) X XE (k t)) : TL (sSeq a rest) ps X XE (thenS ms k) := fun ρ e => by
  have b := h ρ e
  unfold thenS
  cases ms with
  | bad => trivial
  | ex x =>
    obtain ⟨ρ', h1, h2⟩ := b
    exact ⟨ρ', seq_ex h1, h2⟩
  | ok s =>
    cases s with
    | nx t =>
      obtain ⟨ρ', h1, h2⟩ := b
      have c := hk t ρ' h2
      rw [← seq_nx (b := rest) h1] at c
      exact c
    | bk t => exact b.elim
    | rt w =>
      obtain ⟨⟨d, ρ', h1⟩, h2⟩ := b
      show X (sSeq a rest ρ) w
      rw [seq_rt h1]
      rw [h1] at h2
      exact h2
theorem tl_forS {σ : Type} {it : SI} {κ : Kd} {mi : R (List D)} {g : SG} {body : SS} {post : τ → List Pt} {tp : D → R σ} {ptb : σ → τ → List Pt} {fb : σ → τ → R (Step τ ω)} {k : τ → R ω} (t0 : τ) (hi : Eik it κ ps mi) (hf : frzOk κ ps = true) (hw : Wk (frzP κ ps) (post t0))
    (hg : ∀ t, Tg g (some []) (post t) tp (fun s => ptb s t)) (hb : ∀ s t, TL body (ptb s t) (XS post X) XE (fb s t)) (hk : ∀ t, TL rest (post t) X XE (k t)) :
    TL (sSeq (sFor it g body) rest) ps X XE (thenS (mi.bnd fun xs => forS (fun x t => (tp x).bnd fun s => fb s t) xs t0) k) :=
  tl_thenS (fun ρ e => post_bnd (hi ρ e) nox fun ds eds => by
    obtain ⟨ρ1, h1, h2⟩ := e.frzK hf
    have u : sFor it g body ρ = loopS g body ds ρ1 := by
      unfold sFor
      rw [show it ρ = some (ds, κ) from eds]
      simp only [h1]
    rw [u]
    exact loop_S hg hb ds t0 ρ1 (hw ρ1 h2)) hk
/-! while -/
def runN {τ : Type} (c : τ → R Bool) (b : τ → R τ) : Nat → τ → R τ
  | 0, _ => .bad
  | n + 1, t => (c t).bnd fun x => if x = true then (b t).bnd (runN c b n) else .ok t
open Classical in
def whileN {τ : Type} (c : τ → R Bool) (b : τ → R τ) (t : τ) : R τ := if h : ∃ n, runN c b n t ≠ .bad then runN c b h.choose t else .bad
def runS {τ ω : Type} (c : τ → R Bool) (b : τ → R (Step τ ω)) : Nat → τ → R (Step τ ω)
  | 0, _ => .bad
  | n + 1, t => (c t).bnd fun x => if x = true then (b t).bnd (fun s => match s with
    | .nx t' => runS c b n t'
    | .bk t' => .ok (.nx t')
    | .rt w => .ok (.rt w)) else .ok (.nx t)
open Classical in
def whileS {τ ω : Type} (c : τ → R Bool) (b : τ → R (Step τ ω)) (t : τ) : R (Step τ ω) := if h : ∃ n, runS c b n t ≠ .bad then runS c b h.choose t else .bad
theorem run_N {c : ST} {body : SS} {post : τ → List Pt} {fc : τ → R Bool} {fb : τ → R τ} (hc : ∀ t, Et c (post t) (fc t)) (hb : ∀ t, TL body (post t) (XL post) XE (fb t)) :
    ∀ (n : Nat) (t : τ) (ρ : DEnv), EPs (post t) ρ → (runN fc fb n t).post (fun t' => ∃ ρ', runW (sB c) body n ρ = .nx ρ' ∧ EPs (post t') ρ') (fun x => ∃ ρ', runW (sB c) body n ρ = .ex x ρ' ∧ XE ρ')
  | 0, t, ρ, e => trivial
  | n + 1, t, ρ, e => by
    show ((fc t).bnd _).post _ _
    refine post_bnd (hc t ρ e) nox fun x ex => ?_
    have ex : c ρ = some x := ex
    cases x with
    | false =>
      rw [if_neg (by simp)]
      exact ⟨ρ, by rw [runW]; unfold sB; rw [ex], e⟩
    | true =>
      rw [if_pos rfl]
      have h2 := hb t ρ e
      cases hf : fb t with
      | bad => trivial
      | ex z =>
        rw [hf] at h2
        obtain ⟨ρ', q1, q2⟩ := h2
        exact ⟨ρ', by rw [runW]; unfold sB; rw [ex]; simp only [q1], q2⟩
      | ok t' =>
        rw [hf] at h2
        obtain ⟨ρ', q1, q2⟩ := h2
        have ih := run_N hc hb n t' ρ' q2
        have u : runW (sB c) body (n + 1) ρ = runW (sB c) body n ρ' := by
          rw [runW]
          unfold sB
          rw [ex]
          rcases q1 with q1 | q1 <;> simp only [q1] <;> rfl
        rw [u]
        exact ih
theorem tl_while {c : ST} {body : SS} {post : τ → List Pt} {fc : τ → R Bool} {fb : τ → R τ} {k : τ → R ω} (t0 : τ) (hw : Wk ps (post t0)) (hc : ∀ t, Et c (post t) (fc t)) (hb : ∀ t, TL body (post t) (XL post) XE (fb t)) (hk : ∀ t, TL rest (post t) X XE (k t)) :
    TL (sSeq (sWhile (sB c) body) rest) ps X XE ((whileN fc fb t0).bnd k) :=
  tl_step (P := fun t ρ' => EPs (post t) ρ') (fun ρ e => by
    unfold whileN
    split
    · rename_i h
      have hn := h.choose_spec
      have r := run_N hc hb h.choose t0 ρ (hw ρ e)
      have hne : runW (sB c) body h.choose ρ ≠ .bad := by
        intro hbad
        rw [hbad] at r
        cases hr : runN fc fb h.choose t0 with
        | bad => exact hn hr
        | ok t => rw [hr] at r; obtain ⟨ρ', q, _⟩ := r; cases q
        | ex x => rw [hr] at r; obtain ⟨ρ', q, _⟩ := r; cases q
      rw [sWhile_eq hne]
      exact r
    · trivial) (fun t ρ' e => hk t ρ' e)
theorem run_S {Xr : Out → ω → Prop} {c : ST} {body : SS} {post : τ → List Pt} {fc : τ → R Bool} {fb : τ → R (Step τ ω)} (hc : ∀ t, Et c (post t) (fc t)) (hb : ∀ t, TL body (post t) (XS post Xr) XE (fb t)) :
    ∀ (n : Nat) (t : τ) (ρ : DEnv), EPs (post t) ρ → (runS fc fb n t).post (fun s => match s with
      | .nx t' => ∃ ρ', runW (sB c) body n ρ = .nx ρ' ∧ EPs (post t') ρ'
      | .bk _ => False
      | .rt w => (∃ d ρ', runW (sB c) body n ρ = .rt d ρ') ∧ Xr (runW (sB c) body n ρ) w) (fun x => ∃ ρ', runW (sB c) body n ρ = .ex x ρ' ∧ XE ρ')
  | 0, t, ρ, e => trivial
  | n + 1, t, ρ, e => by
    show ((fc t).bnd _).post _ _
    refine post_bnd (hc t ρ e) nox fun x ex => ?_
    have ex : c ρ = some x := ex
    cases x with
    | false =>
      rw [if_neg (by simp)]
      exact ⟨ρ, by rw [runW]; unfold sB; rw [ex], e⟩
    | true =>
      rw [if_pos rfl]
      have h2 := hb t ρ e
      cases hf : fb t with
      | bad => trivial
      | ex z =>
        rw [hf] at h2
        obtain ⟨ρ', q1, q2⟩ := h2
        exact ⟨ρ', by rw [runW]; unfold sB; rw [ex]; simp only [q1], q2⟩
      | ok st =>
        rw [hf] at h2
        cases st with
        | nx t' =>
          obtain ⟨ρ', q1, q2⟩ := h2
          have ih := run_S hc hb n t' ρ' q2
          have u : runW (sB c) body (n + 1) ρ = runW (sB c) body n ρ' := by
            rw [runW]
            unfold sB
            rw [ex]
            rcases q1 with q1 | q1 <;> simp only [q1] <;> rfl
          rw [u]
          exact ih
        | bk t' =>
          obtain ⟨ρ', q1, q2⟩ := h2
          exact ⟨ρ', by rw [runW]; unfold sB; rw [ex]; simp only [q1], q2⟩
        | rt w =>
          obtain ⟨⟨d, ρ', q1⟩, q2⟩ := h2
          have u : runW (sB c) body (n + 1) ρ = .rt d ρ' := by rw [runW]; unfold sB; rw [ex]; simp only [q1]
          rw [q1] at q2
          show (∃ d ρ', runW (sB c) body (n + 1) ρ = .rt d ρ') ∧ Xr (runW (sB c) body (n + 1) ρ) w
          rw [u]
          exact ⟨⟨d, ρ', rfl⟩, q2⟩
theorem tl_whileS {c : ST} {body : SS} {post : τ → List Pt} {fc : τ → R Bool} {fb : τ → R (Step τ ω)} {k : τ → R ω} (t0 : τ) (hw : Wk ps (post t0)) (hc : ∀ t, Et c (post t) (fc t)) (hb : ∀ t, TL body (post t) (XS post X) XE (fb t)) (hk : ∀ t, TL rest (post t) X XE (k t)) :
    TL (sSeq (sWhile (sB c) body) rest) ps X XE (thenS (whileS fc fb t0) k) :=
  tl_thenS (post := post) (fun ρ e => by
    unfold whileS
    split
    · rename_i h
      have hn := h.choose_spec
      have r := run_S hc hb h.choose t0 ρ (hw ρ e)
      have hne : runW (sB c) body h.choose ρ ≠ .bad := by
        intro hbad
        rw [hbad] at r
        cases hr : runS fc fb h.choose t0 with
        | bad => exact hn hr
        | ok s =>
          rw [hr] at r
          cases s with
          | nx t => obtain ⟨ρ', q, _⟩ := r; cases q
          | bk t => exact r
          | rt w => obtain ⟨⟨d, ρ', q⟩, _⟩ := r; cases q
        | ex x => rw [hr] at r; obtain ⟨ρ', q, _⟩ := r; cases q
      rw [sWhile_eq hne]
      exact r
    · trivial) hk
/-! returns, defs -/
def Xret (X : Out → ω → Prop) (ps : List Pt) (f : D → ω) : Prop := ∀ ρ d, EPs ps ρ → X (.rt d ρ) (f d)
theorem xret_S {Xr : Out → ω → Prop} {post : τ → List Pt} {f : D → ω} (h : Xret Xr ps f) : Xret (XS post Xr) ps (fun d => .rt (f d)) := fun ρ d e => ⟨⟨d, ρ, rfl⟩, h ρ d e⟩
theorem tl_ret {s : SE} {ms : R D} {f : D → ω} (hs : Ef s ps ms) (hX : Xret X ps f) : TL (sSeq (sRet (sX s)) rest) ps X XE (ms.bnd fun d => .ok (f d)) := fun ρ e =>
  post_bnd (hs ρ e) nox fun d ed => by
    have u : sRet (sX s) ρ = .rt d ρ := by
      unfold sRet sX
      rw [show s ρ = some (d, none) from ed]
      simp only
      split <;> rfl
    show X (sSeq (sRet (sX s)) rest ρ) (f d)
    rw [seq_rt u]
    exact hX ρ d e
theorem tl_retX {s : SX} {ms : R (D × τ)} {post : τ → List Pt} {f : τ → D → ω} (hs : Ex s ps XE ms post) (hX : ∀ t, Xret X (post t) (f t)) : TL (sSeq (sRet s) rest) ps X XE (bnd2 ms fun d t => .ok (f t d)) := fun ρ e => by
  have b := hs ρ e
  unfold bnd2
  cases ms with
  | bad => trivial
  | ex x =>
    obtain ⟨ρ', h1, h2⟩ := b
    exact ⟨ρ', seq_ex (by unfold sRet; rw [h1]), h2⟩
  | ok r =>
    obtain ⟨ρ', h1, h2⟩ := b
    have u : sRet s ρ = .rt r.1 ρ' := by
      unfold sRet
      rw [h1]
      simp only
      split <;> rfl
    show X (sSeq (sRet s) rest ρ) (f r.2 r.1)
    rw [seq_rt u]
    exact hX r.2 ρ' r.1 h2
theorem tl_retN {f : D → ω} (hX : Xret X ps f) : TL (sSeq sRetN rest) ps X XE (.ok (f .non)) := fun ρ e => hX ρ .non e
/-- a list of one's own -/
theorem tl_retV {i : Nat} {d : D} {f : D → ω} (h : ps[i]? = some (.o d)) (hX : Xret X ps f) : TL (sSeq (sRetV i) rest) ps X XE (.ok (f d)) := fun ρ e => by
  obtain ⟨x, hx, hp⟩ := e.get h
  rw [show x = _ from hp] at hx
  have u : sRetV i ρ = .rt d ρ := by unfold sRetV; rw [hx]
  show X (sSeq (sRetV i) rest ρ) (f d)
  rw [seq_rt u]
  exact hX ρ d e
theorem tl_retI {i : Nat} {p : Pt} {d : D} {f : D → ω} (h : ps[i]? = some p) (v : p.val = some d) (hX : Xret X ps f) : TL (sSeq (sRetV i) rest) ps X XE ((immR (.ok d)).bnd fun d => .ok (f d)) := fun ρ e => by
  obtain ⟨m, hm⟩ := e.val h v
  show (R.bnd (if d.imm = true then R.ok d else .bad) _).post _ _
  split
  · rename_i hd
    have u : sRetV i ρ = .rt d ρ := by
      unfold sRetV
      rw [hm]
      cases m <;> simp [hd]
    show X (sSeq (sRetV i) rest ρ) (f d)
    rw [seq_rt u]
    exact hX ρ d e
  · trivial
def XF (io : List Bool) (o : Out) (w : D × List D) : Prop := ∃ ρ', (o = .rt w.1 ρ' ∨ (o = .nx ρ' ∧ w.1 = .non)) ∧ ∃ us, outArgs io ρ' = some us ∧ us.length = io.length ∧ selIo io us = w.2
def ioVals : List Bool → List Pt → Option (List D)
  | [], _ => some []
  | false :: io, _ :: ps => ioVals io ps
  | true :: io, .a d :: ps => (match ioVals io ps with | some r => some (d :: r) | none => none)
  | _, _ => none
theorem ret_io : ∀ {io : List Bool} {ps : List Pt} {ρ : DEnv} {vs : List D}, EPs ps ρ → ioVals io ps = some vs → ∃ us, outArgs io ρ = some us ∧ us.length = io.length ∧ selIo io us = vs
  | [], ps, ρ, vs, e, h => by
    have : vs = [] := by simpa [ioVals] using h.symm
    subst this
    exact ⟨[], rfl, rfl, rfl⟩
  | false :: io, [], ρ, vs, e, h => by simp [ioVals] at h
  | true :: io, [], ρ, vs, e, h => by simp [ioVals] at h
  | o :: io, p :: ps, [], vs, e, h => e.elim
  | false :: io, p :: ps, x :: ρ, vs, e, h => by
    obtain ⟨us, h1, h2, h3⟩ := ret_io (io := io) e.2 (by simpa [ioVals] using h)
    cases x with
    | none => exact ⟨.non :: us, by rw [outArgs, h1]; rfl, by simp [h2], by simpa [selIo] using h3⟩
    | some q =>
      obtain ⟨d, m⟩ := q
      exact ⟨d :: us, by rw [outArgs, h1]; rfl, by simp [h2], by simpa [selIo] using h3⟩
  | true :: io, p :: ps, x :: ρ, vs, e, h => by
    cases p with
    | a d =>
      rw [ioVals] at h
      cases hr : ioVals io ps with
      | none => rw [hr] at h; cases h
      | some r =>
        rw [hr] at h
        cases h
        obtain ⟨us, h1, h2, h3⟩ := ret_io (io := io) e.2 hr
        have ex : x = some (d, .arg) := e.1
        subst ex
        exact ⟨d :: us, by rw [outArgs, h1]; rfl, by simp [h2], by simp [selIo, h3]⟩
    | _ => simp [ioVals] at h
theorem xret_F {io : List Bool} {vs : List D} (h : ioVals io ps = some vs) : Xret (XF io) ps (fun d => (d, vs)) := fun ρ d e => ⟨ρ, .inl rfl, ret_io e h⟩
theorem tl_endF {io : List Bool} {vs : List D} (h : ioVals io ps = some vs) : TL sNil ps (XF io) XE (.ok (.non, vs)) := fun ρ e => ⟨ρ, .inr ⟨rfl, rfl⟩, ret_io e h⟩
def argP : List Bool → List D → List Pt
  | o :: io, d :: ds => (if o = true then .a d else .s d) :: argP io ds
  | _, _ => []
theorem argP_ok : ∀ (io : List Bool) (ds : List D), EPs (argP io ds) (argEnv io ds)
  | [], _ => trivial
  | o :: io, [] => trivial
  | true :: io, d :: ds => ⟨rfl, argP_ok io ds⟩
  | false :: io, d :: ds => ⟨⟨.shr, rfl, by decide⟩, argP_ok io ds⟩
theorem EPs.app : ∀ {ps qs : List Pt} {ρ σ : DEnv}, EPs ps ρ → EPs qs σ → EPs (ps ++ qs) (ρ ++ σ)
  | [], qs, [], σ, _, h => h
  | [], qs, _ :: _, σ, e, h => e.elim
  | _ :: _, qs, [], σ, e, h => e.elim
  | p :: ps, qs, x :: ρ, σ, e, h => ⟨e.1, EPs.app e.2 h⟩
theorem EPs.nones : ∀ n, EPs (List.replicate n .u) (List.replicate n none)
  | 0 => trivial
  | n + 1 => ⟨(fun d e => by cases e), EPs.nones n⟩
theorem fref {N : Nat} {io : List Bool} {b : SS} {p : List D → R (D × List D)} (h : ∀ ds, ds.length = io.length → TL b (argP io ds ++ List.replicate (N - ds.length) .u) (XF io) (fun _ => True) (p ds)) (hl : ∀ ds, ds.length ≠ io.length → p ds = .bad) : FRef (fnOf N io b) io p := fun ds => by
  by_cases hd : ds.length = io.length
  · have := h ds hd _ (EPs.app (argP_ok io ds) (EPs.nones (N - ds.length)))
    refine post_mono this (fun w ⟨ρ', h1, us, h2, h3, h4⟩ => ⟨hd, us, ?_, h3, h4⟩) (fun x ⟨ρ', h1, _⟩ => ?_)
    · unfold fnOf
      rcases h1 with h1 | ⟨h1, h5⟩
      · rw [h1]
        show (match outArgs io ρ' with | some us => FO.ok w.1 us | none => .bad) = _
        rw [h2]
      · rw [h1]
        show (match outArgs io ρ' with | some us => FO.ok .non us | none => .bad) = _
        rw [h2, h5]
    · unfold fnOf
      rw [h1]
      rfl
  · rw [hl ds hd]
    trivial
def noexF (p : List D → R (D × List D)) : List D → R (D × List D) := fun ds => (p ds).noex
theorem fref_noex {g : FS} {io : List Bool} {p : List D → R (D × List D)} (h : FRef g io p) : FRef (noEx g) io (noexF p) := fun ds => by
  have := h ds
  unfold noexF
  cases hp : p ds with
  | bad => trivial
  | ex x => trivial
  | ok r =>
    rw [hp] at this
    obtain ⟨h1, us, h2, h3, h4⟩ := this
    refine ⟨h1, us, ?_, h3, h4⟩
    unfold noEx
    rw [h2]
def ar0 {α : Type} (f : R α) : List D → R α | [] => f | _ => .bad
def ar1 {α : Type} (f : D → R α) : List D → R α | [a] => f a | _ => .bad
def ar2 {α : Type} (f : D → D → R α) : List D → R α | [a, b] => f a b | _ => .bad
def ar3 {α : Type} (f : D → D → D → R α) : List D → R α | [a, b, c] => f a b c | _ => .bad
def ar4 {α : Type} (f : D → D → D → D → R α) : List D → R α | [a, b, c, d] => f a b c d | _ => .bad
def ar5 {α : Type} (f : D → D → D → D → D → R α) : List D → R α | [a, b, c, d, e] => f a b c d e | _ => .bad
def ar6 {α : Type} (f : D → D → D → D → D → D → R α) : List D → R α | [a, b, c, d, e, g] => f a b c d e g | _ => .bad
end
section
variable {N : Nat} {b : SS}
abbrev fps (io : List Bool) (N : Nat) (ds : List D) : List Pt := argP io ds ++ List.replicate (N - ds.length) .u
theorem fref1 {o1 : Bool} {f : D → R (D × List D)} (h : ∀ x1, TL b (fps [o1] N [x1]) (XF [o1]) (fun _ => True) (f x1)) : FRef (noEx (fnOf N [o1] b)) [o1] (noexF (ar1 f)) :=
  fref_noex (fref (fun ds hd => match ds, hd with | [x1], _ => h x1) (fun ds hd => match ds, hd with | [], _ => rfl | [_], h => absurd rfl h | _ :: _ :: _, _ => rfl))
theorem fref2 {o1 o2 : Bool} {f : D → D → R (D × List D)} (h : ∀ x1 x2, TL b (fps [o1, o2] N [x1, x2]) (XF [o1, o2]) (fun _ => True) (f x1 x2)) : FRef (noEx (fnOf N [o1, o2] b)) [o1, o2] (noexF (ar2 f)) :=
  fref_noex (fref (fun ds hd => match ds, hd with | [x1, x2], _ => h x1 x2) (fun ds hd => match ds, hd with | [], _ => rfl | [_], _ => rfl | [_, _], h => absurd rfl h | _ :: _ :: _ :: _, _ => rfl))
theorem fref3 {o1 o2 o3 : Bool} {f : D → D → D → R (D × List D)} (h : ∀ x1 x2 x3, TL b (fps [o1, o2, o3] N [x1, x2, x3]) (XF [o1, o2, o3]) (fun _ => True) (f x1 x2 x3)) : FRef (noEx (fnOf N [o1, o2, o3] b)) [o1, o2, o3] (noexF (ar3 f)) :=
  fref_noex (fref (fun ds hd => match ds, hd with | [x1, x2, x3], _ => h x1 x2 x3) (fun ds hd => match ds, hd with | [], _ => rfl | [_], _ => rfl | [_, _], _ => rfl | [_, _, _], h => absurd rfl h | _ :: _ :: _ :: _ :: _, _ => rfl))
theorem fref4 {o1 o2 o3 o4 : Bool} {f : D → D → D → D → R (D × List D)} (h : ∀ x1 x2 x3 x4, TL b (fps [o1, o2, o3, o4] N [x1, x2, x3, x4]) (XF [o1, o2, o3, o4]) (fun _ => True) (f x1 x2 x3 x4)) : FRef (noEx (fnOf N [o1, o2, o3, o4] b)) [o1, o2, o3, o4] (noexF (ar4 f)) :=
  fref_noex (fref (fun ds hd => match ds, hd with | [x1, x2, x3, x4], _ => h x1 x2 x3 x4) (fun ds hd => match ds, hd with | [], _ => rfl | [_], _ => rfl | [_, _], _ => rfl | [_, _, _], _ => rfl | [_, _, _, _], h => absurd rfl h | _ :: _ :: _ :: _ :: _ :: _, _ => rfl))
theorem fref5 {o1 o2 o3 o4 o5 : Bool} {f : D → D → D → D → D → R (D × List D)} (h : ∀ x1 x2 x3 x4 x5, TL b (fps [o1, o2, o3, o4, o5] N [x1, x2, x3, x4, x5]) (XF [o1, o2, o3, o4, o5]) (fun _ => True) (f x1 x2 x3 x4 x5)) : FRef (noEx (fnOf N [o1, o2, o3, o4, o5] b)) [o1, o2, o3, o4, o5] (noexF (ar5 f)) :=
  fref_noex (fref (fun ds hd => match ds, hd with | [x1, x2, x3, x4, x5], _ => h x1 x2 x3 x4 x5) (fun ds hd => match ds, hd with | [], _ => rfl | [_], _ => rfl | [_, _], _ => rfl | [_, _, _], _ => rfl | [_, _, _, _], _ => rfl | [_, _, _, _, _], h => absurd rfl h | _ :: _ :: _ :: _ :: _ :: _ :: _, _ => rfl))
end
end DL
end DLsec27
set_option maxRecDepth 100000
noncomputable section DLsec28
/-! DL28: reckoning with plain functions. -/
namespace DL
open PySem PySem.Spec PyProof.Rows L2
def R.sat {α : Type} (m : R α) (Q : α → Prop) : Prop := ∃ a, m = .ok a ∧ Q a
section
variable {α β γ : Type}
theorem bnd_ok {a : α} {f : α → R β} : (R.ok a).bnd f = f a := rfl
theorem bnd2_ok {a : α} {b : β} {k : α → β → R γ} : bnd2 (R.ok (a, b)) k = k a b := rfl
theorem noex_ok {a : α} : (R.ok a).noex = R.ok a := rfl
theorem of_some {a : α} : R.of (some a) = R.ok a := rfl
theorem sat_ok {a : α} {Q : α → Prop} : (R.ok a).sat Q ↔ Q a := ⟨fun ⟨b, e, q⟩ => by cases e; exact q, fun q => ⟨a, rfl, q⟩⟩
theorem sat_bnd {m : R α} {f : α → R β} {Q : β → Prop} : (m.bnd f).sat Q ↔ m.sat fun a => (f a).sat Q := by
  cases m with
  | ok a => exact ⟨fun h => ⟨a, rfl, h⟩, fun ⟨b, e, h⟩ => by cases e; exact h⟩
  | ex x =>
    constructor
    · rintro ⟨b, e, _⟩; cases e
    · rintro ⟨b, e, _⟩; cases e
  | bad =>
    constructor
    · rintro ⟨b, e, _⟩; cases e
    · rintro ⟨b, e, _⟩; cases e
theorem sat_bnd2 {m : R (α × β)} {f : α → β → R γ} {Q : γ → Prop} : (bnd2 m f).sat Q ↔ m.sat fun a => (f a.1 a.2).sat Q := sat_bnd
theorem sat_noex {m : R α} {Q : α → Prop} : m.noex.sat Q ↔ m.sat Q := by
  cases m with
  | ex x =>
    constructor
    · rintro ⟨b, e, _⟩; cases e
    · rintro ⟨b, e, _⟩; cases e
  | _ => exact Iff.rfl
theorem R.sat.mono {m : R α} {P Q : α → Prop} (h : m.sat P) (k : ∀ a, P a → Q a) : m.sat Q := let ⟨a, e, p⟩ := h; ⟨a, e, k a p⟩
theorem sat_seq {m : R α} {f : α → R β} {P : α → Prop} {Q : β → Prop} (h : m.sat P) (k : ∀ a, P a → (f a).sat Q) : (m.bnd f).sat Q := sat_bnd.mpr (h.mono k)
theorem sat_seq2 {m : R (α × β)} {f : α → β → R γ} {P : α × β → Prop} {Q : γ → Prop} (h : m.sat P) (k : ∀ a b, P (a, b) → (f a b).sat Q) : (bnd2 m f).sat Q := sat_bnd.mpr (h.mono fun ab hp => k ab.1 ab.2 hp)
theorem sat_eq {m : R α} {a : α} (h : m.sat (· = a)) : m = R.ok a := by obtain ⟨b, e, rfl⟩ := h; exact e
theorem eq_sat {m : R α} {a : α} (h : m = R.ok a) : m.sat (· = a) := ⟨a, h, rfl⟩
theorem sat_if {c : Prop} [Decidable c] {x y : R α} {Q : α → Prop} (h1 : c → x.sat Q) (h2 : ¬ c → y.sat Q) : (if c then x else y).sat Q := by
  split
  · exact h1 (by assumption)
  · exact h2 (by assumption)
theorem iteR_ok {b : Bool} {x y : R α} : iteR (R.ok b) x y = if b = true then x else y := rfl
theorem ifX_ok {τ : Type} {b : Bool} {t : τ} {x y : τ → R α} : ifX (R.ok (.bl b, t)) x y = if b = true then x t else y t := by cases b <;> rfl
end
section
variable {x y z d : D} {b c : Bool} {f g : D → D → Option D} {ds es : List D} {τ τ1 τ2 : Type} {t : τ}
theorem op2_ok : op2 f (R.ok x) (R.ok y) = R.of (f x y) := rfl
theorem chnR_t (h : f x y = some (.bl true)) : chnR f g (R.ok x) (R.ok y) (R.ok z) = R.of (g y z) := by unfold chnR; simp only [bnd_ok, h]
theorem chnR_f (h : f x y = some (.bl false)) : chnR f g (R.ok x) (R.ok y) (R.ok z) = R.ok (.bl false) := by unfold chnR; simp only [bnd_ok, h]
theorem chnR_b {p q : Bool} (h : f x y = some (.bl p)) (h2 : g y z = some (.bl q)) : chnR f g (R.ok x) (R.ok y) (R.ok z) = R.ok (.bl (p && q)) := by cases p <;> (unfold chnR; simp only [bnd_ok, h, h2]) <;> rfl
theorem consR_ok : consR (R.ok x) (R.ok ds) = R.ok (x :: ds) := rfl
theorem lstR_ok (h : ds.length ≤ 16777216) : lstR (R.ok ds) = R.ok (.lst ds) := by unfold lstR; rw [bnd_ok, if_pos (len_line h)]
theorem tupR_ok (h : ds.length ≤ 16777216) : tupR (R.ok ds) = R.ok (.tup ds) := by unfold tupR; rw [bnd_ok, if_pos (len_line h)]
theorem tR_ok : tR (R.ok (.bl b)) = R.ok b := rfl
theorem truR_ok {b : Bool} (h : d.tru = some b) : truR (R.ok d) = R.ok b := by unfold truR; rw [bnd_ok, h]; rfl
theorem notT_ok : notT (R.ok b) = R.ok (!b) := rfl
theorem andT_ok : andT (R.ok b) (R.ok c) = R.ok (b && c) := by cases b <;> rfl
theorem orT_ok : orT (R.ok b) (R.ok c) = R.ok (b || c) := by cases b <;> rfl
theorem andT_l {m : R Bool} : andT (R.ok b) m = if b = true then m else R.ok false := rfl
theorem orT_l {m : R Bool} : orT (R.ok b) m = if b = true then R.ok true else m := rfl
theorem andR_ok : andR (R.ok (.bl b)) (R.ok (.bl c)) = R.ok (.bl (b && c)) := by cases b <;> rfl
theorem orR_ok : orR (R.ok (.bl b)) (R.ok (.bl c)) = R.ok (.bl (b || c)) := by cases b <;> rfl
theorem andR_l {m : R D} : andR (R.ok (.bl b)) m = if b = true then m else R.ok (.bl false) := by cases b <;> rfl
theorem orR_l {m : R D} : orR (R.ok (.bl b)) m = if b = true then R.ok (.bl true) else m := by cases b <;> rfl
theorem notR_ok : notR (R.ok (.bl b)) = R.ok (.bl (!b)) := rfl
theorem negR_ok {i : Int} : negR (R.ok (.int i)) = R.ok (.int (-i)) := rfl
theorem oSo_ok {i : Int} : oSo (R.ok (.int i)) = R.ok (some i) := rfl
theorem slR_ok {l u : Option Int} : slR (R.ok d) (R.ok l) (R.ok u) = R.of (slD d l u) := rfl
theorem un1_ok {f : D → Option D} : un1 f (R.ok x) = R.of (f x) := rfl
theorem bltR_ok {g : List D → Option D} : bltR g (R.ok ds) = R.of (g ds) := rfl
theorem pR_ok {α : Type} {a : α} : pR (R.ok a) = R.ok (a, ()) := rfl
theorem immR_ok (h : d.imm = true) : immR (R.ok d) = R.ok d := by unfold immR; rw [bnd_ok, if_pos h]
theorem imm_int {i : Int} : (D.int i).imm = true := rfl
theorem imm_str {i : Str} : (D.str i).imm = true := rfl
theorem imm_bl {i : Bool} : (D.bl i).imm = true := rfl
theorem imm_non : D.non.imm = true := rfl
theorem imm_tup {l : List D} : (D.tup l).imm = imms l := rfl
theorem imm_rol {l : List D} : (D.rol l).imm = imms l := rfl
theorem imms_nil : imms [] = true := rfl
theorem imms_cons {d : D} {l : List D} : imms (d :: l) = (d.imm && imms l) := rfl
theorem imms_app : ∀ {l k : List D}, imms (l ++ k) = (imms l && imms k)
  | [], k => rfl
  | a :: l, k => by rw [List.cons_append, imms_cons, imms_cons, imms_app, Bool.and_assoc]
theorem imms_map {α : Type} {f : α → D} (h : ∀ a, (f a).imm = true) (l : List α) : imms (l.map f) = true := imms_all fun x hx => by obtain ⟨a, _, rfl⟩ := List.mem_map.mp hx; exact h a
theorem imms_ints {l : List Int} : imms (l.map D.int) = true := imms_map (fun _ => rfl) l
theorem imms_strs {l : List Str} : imms (l.map D.str) = true := imms_map (fun _ => rfl) l
theorem imms_getD {l : List D} {n : Nat} (h : imms l = true) : (l.getD n .non).imm = true := by
  rw [List.getD_eq_getElem?_getD]
  cases e : l[n]? with
  | none => rfl
  | some x =>
    have hm : x ∈ l := List.mem_of_getElem? e
    clear e
    induction l with
    | nil => cases hm
    | cons a l ih =>
      rw [imms_cons, Bool.and_eq_true] at h
      rcases List.mem_cons.mp hm with rfl | hm
      · exact h.1
      · exact ih h.2 hm
theorem items_lst {l : List D} : (D.lst l).items = l := rfl
theorem items_tup {l : List D} : (D.tup l).items = l := rfl
theorem items_rol {l : List D} : (D.rol l).items = l := rfl
theorem items_str {x : Str} : (D.str x).items = [] := rfl
theorem immG_ok (h : d.imm = true) : immG d = R.ok d := if_pos h
theorem lfR_ok (h : imms d.items = true) : lfR (R.ok d) = R.ok d := by unfold lfR; rw [bnd_ok, if_pos h]
theorem callP_ok {p : List D → R (D × List D)} : callP p (R.ok ds) = (p ds).noex.bnd fun r => R.ok r.1 := rfl
theorem callX_ok {p : List D → R (D × List D)} : callX p (R.ok (ds, t)) = (p ds).noex.bnd fun q => R.ok (q.1, (t, q.2)) := rfl
theorem callP_sat {p : List D → R (D × List D)} {P : D × List D → Prop} (h : (p ds).sat P) : (callP p (R.ok ds)).sat fun d => ∃ us, P (d, us) := by
  obtain ⟨r, e, q⟩ := h
  exact ⟨r.1, by rw [callP_ok, e]; rfl, r.2, q⟩
theorem callX_sat {p : List D → R (D × List D)} {P : D × List D → Prop} (h : (p ds).sat P) : (callX p (R.ok (ds, t))).sat fun q => P (q.1, q.2.2) ∧ q.2.1 = t := by
  obtain ⟨r, e, q⟩ := h
  exact ⟨(r.1, (t, r.2)), by rw [callX_ok, e]; rfl, q, rfl⟩
theorem consV_ok {d : τ → D} : consV d (R.ok (ds, t)) = R.ok (d t :: ds, t) := rfl
theorem consVI_ok {d : τ → D} (h : (d t).imm = true) : consVI d (R.ok (ds, t)) = R.ok (d t :: ds, t) := by unfold consVI; rw [bnd_ok]; exact if_pos h
theorem lstX_ok (h : ds.length ≤ 16777216) : lstX (R.ok (ds, t)) = R.ok (.lst ds, t) := by unfold lstX; rw [bnd_ok]; exact if_pos (len_line h)
theorem tupX_ok (h : ds.length ≤ 16777216) : tupX (R.ok (ds, t)) = R.ok (.tup ds, t) := by unfold tupX; rw [bnd_ok]; exact if_pos (len_line h)
theorem consX_ok {m : τ1 → R (List D × τ2)} {t : τ1} : consX (R.ok (x, t)) m = (m t).bnd fun q => R.ok (x :: q.1, (t, q.2)) := rfl
theorem opX_ok {m : τ1 → R (D × τ2)} {t : τ1} : opX f (R.ok (x, t)) m = (m t).bnd fun q => (R.of (f x q.1)).bnd fun z => R.ok (z, (t, q.2)) := rfl
theorem opX_sat {m1 : R (D × τ1)} {m2 : τ1 → R (D × τ2)} {Q : D × (τ1 × τ2) → Prop} : (opX f m1 m2).sat Q ↔ m1.sat fun r => (m2 r.2).sat fun q => (R.of (f r.1 q.1)).sat fun z => Q (z, (r.2, q.2)) := by
  unfold opX
  simp only [sat_bnd, sat_ok]
theorem sat_lstX {m : R (List D × τ)} {Q : D × τ → Prop} : (lstX m).sat Q ↔ m.sat fun r => (lstR (R.ok r.1)).sat fun d => Q (d, r.2) := by
  have key : lstX m = m.bnd fun r => (lstR (R.ok r.1)).bnd fun d => R.ok (d, r.2) := by
    unfold lstX lstR
    congr 1
    funext r
    rw [bnd_ok]
    split <;> rfl
  rw [key]
  simp only [sat_bnd, sat_ok]
theorem sat_tupX {m : R (List D × τ)} {Q : D × τ → Prop} : (tupX m).sat Q ↔ m.sat fun r => (tupR (R.ok r.1)).sat fun d => Q (d, r.2) := by
  have key : tupX m = m.bnd fun r => (tupR (R.ok r.1)).bnd fun d => R.ok (d, r.2) := by
    unfold tupX tupR
    congr 1
    funext r
    rw [bnd_ok]
    split <;> rfl
  rw [key]
  simp only [sat_bnd, sat_ok]
theorem sat_consX {m1 : R (D × τ1)} {m2 : τ1 → R (List D × τ2)} {Q : List D × (τ1 × τ2) → Prop} : (consX m1 m2).sat Q ↔ m1.sat fun r => (m2 r.2).sat fun q => Q (r.1 :: q.1, (r.2, q.2)) := by
  unfold consX
  simp only [sat_bnd, sat_ok]
theorem sat_consV {d : τ → D} {m : R (List D × τ)} {Q : List D × τ → Prop} : (consV d m).sat Q ↔ m.sat fun r => Q (d r.2 :: r.1, r.2) := by
  unfold consV
  simp only [sat_bnd, sat_ok]
theorem sat_callX {p : List D → R (D × List D)} {m : R (List D × τ)} {Q : D × (τ × List D) → Prop} : (callX p m).sat Q ↔ m.sat fun r => (p r.1).sat fun q => Q (q.1, (r.2, q.2)) := by
  unfold callX
  simp only [sat_bnd, sat_ok, sat_noex]
theorem sat_callP {p : List D → R (D × List D)} {m : R (List D)} {Q : D → Prop} : (callP p m).sat Q ↔ m.sat fun ds => (p ds).sat fun r => Q r.1 := by
  unfold callP
  simp only [sat_bnd, sat_ok, sat_noex]
theorem sat_opV {d : τ → D} {m : R (D × τ)} {Q : D × τ → Prop} : (opV f d m).sat Q ↔ m.sat fun r => (R.of (f (d r.2) r.1)).sat fun z => Q (z, r.2) := by
  unfold opV
  simp only [sat_bnd, sat_ok]
theorem sat_ixV {d : τ → D} {m : R (D × τ)} {Q : D × τ → Prop} : (ixV d m).sat Q ↔ m.sat fun r => (immR (R.of (ixD (d r.2) r.1))).sat fun z => Q (z, r.2) := by
  unfold ixV
  simp only [sat_bnd, sat_ok]
theorem sat_bltX {g : List D → Option D} {m : R (List D × τ)} {Q : D × τ → Prop} : (bltX g m).sat Q ↔ m.sat fun r => (R.of (g r.1)).sat fun z => Q (z, r.2) := by
  unfold bltX
  simp only [sat_bnd, sat_ok]
theorem sat_appX {d0 : D} {m : R (D × τ)} {dt : τ → D} {Q : D × (τ × D) → Prop} : (appX d0 m dt).sat Q ↔ (isLst d0).sat fun _ => m.sat fun r => (appR (dt r.2) r.1).sat fun d' => Q (.non, (r.2, d')) := by
  unfold appX
  simp only [sat_bnd, sat_ok]
theorem sat_appE {m : R D} {d : D} {Q : D × D → Prop} : (appE d m).sat Q ↔ m.sat fun y => (appR d y).sat fun d' => Q (.non, d') := by
  unfold appE
  simp only [sat_bnd, sat_ok]
theorem sat_pR {α : Type} {m : R α} {Q : α × Unit → Prop} : (pR m).sat Q ↔ m.sat fun d => Q (d, ()) := by
  unfold pR
  simp only [sat_bnd, sat_ok]
theorem sat_iteR {α : Type} {c : R Bool} {x y : R α} {Q : α → Prop} : (iteR c x y).sat Q ↔ c.sat fun b => (if b = true then x else y).sat Q := by
  unfold iteR
  rw [sat_bnd]
theorem isLst_ok : isLst (.lst ds) = R.ok () := rfl
theorem opV_ok {d : τ → D} : opV f d (R.ok (x, t)) = (R.of (f (d t) x)).bnd fun z => R.ok (z, t) := rfl
theorem ixV_ok {d : τ → D} : ixV d (R.ok (x, t)) = (immR (R.of (ixD (d t) x))).bnd fun z => R.ok (z, t) := rfl
theorem bltX_ok {g : List D → Option D} : bltX g (R.ok (ds, t)) = (R.of (g ds)).bnd fun z => R.ok (z, t) := rfl
theorem appR_ok (h : ds.length < 16777216) : appR (.lst ds) y = R.ok (.lst (ds ++ [y])) := if_pos (okP_iff.mpr (by rw [sLine]; exact h))
theorem appE_ok (h : ds.length < 16777216) : appE (.lst ds) (R.ok y) = R.ok (.non, .lst (ds ++ [y])) := by unfold appE; rw [bnd_ok, appR_ok h]; rfl
theorem appX_ok {t : τ} {dt : τ → D} (h : dt t = .lst es) (hl : es.length < 16777216) : appX (.lst ds) (R.ok (y, t)) dt = R.ok (.non, (t, .lst (es ++ [y]))) := by
  unfold appX
  show (R.bnd (appR (dt t) y) _) = _
  rw [h, appR_ok hl]
  rfl
theorem popR_ok (h : ds ≠ []) : popR (.lst ds) = R.ok (ds.getLastD .non, .lst ds.dropLast) := by
  have : ds.isEmpty = false := by simpa using h
  show (if ds.isEmpty = true then R.bad else _) = _
  rw [this]
  rfl
theorem popR_app : popR (.lst (ds ++ [y])) = R.ok (y, .lst ds) := by
  rw [popR_ok (by simp)]
  simp
theorem augR_ok {f : Int → Int → Int} {i j : Int} : augR f (.int i) (R.ok (.int j, t)) = R.ok (.int (f i j), t) := rfl
theorem setR_ok {i : Int} (h0 : 0 ≤ i) (h1 : i < ds.length) : setR (.lst ds) (R.ok (.int i)) (R.ok y) = R.ok (.lst (ds.set i.toNat y)) := by
  obtain ⟨n, rfl⟩ := Int.eq_ofNat_of_zero_le h0
  have hn : ixN ds.length (n : Int) = some n := by
    unfold ixN
    first
      | (rw [if_pos (by omega)]; rfl)
      | (simp; omega)
  show setD (.lst ds) (.int (n : Int)) y = _
  unfold setD
  simp only [hn, Int.toNat_natCast]
/-! values -/
theorem vAdd {i j : Int} : fAdd (.int i) (.int j) = some (.int (i + j)) := rfl
theorem vSub {i j : Int} : fSub (.int i) (.int j) = some (.int (i - j)) := rfl
theorem vMul {i j : Int} (h1 : i.natAbs < 1000000000000000000000000) (h2 : j.natAbs < 1000000000000000000000000) : fMul (.int i) (.int j) = some (.int (i * j)) := by
  show (if mulOk i j = true then some (D.int (i * j)) else none) = _
  rw [if_pos (mul_ok 100 100 (Nat.lt_of_lt_of_le h1 (by decide)) (Nat.lt_of_lt_of_le h2 (by decide)) (by decide))]
theorem vMulB {i j : Int} (a b : Nat) (h1 : i.natAbs < 2 ^ a) (h2 : j.natAbs < 2 ^ b) (h : a + b ≤ 134217728) : fMul (.int i) (.int j) = some (.int (i * j)) := by
  show (if mulOk i j = true then some (D.int (i * j)) else none) = _
  rw [if_pos (mul_ok a b h1 h2 h)]
theorem vDiv {i j : Int} (h : 0 < j) (h2 : j.natAbs < 1000000000000000000000000) : fDiv (.int i) (.int j) = some (.int (i / j)) := by
  show (if divOk i j = true then some (D.int (i / j)) else none) = _
  rw [if_pos (div_ok h (log2_le h2))]
theorem vMod {i j : Int} (h : 0 < j) : fMod (.int i) (.int j) = some (.int (i % j)) := by
  show (if modOk i j = true then some (D.int (i % j)) else none) = _
  rw [if_pos (mod_ok h)]
theorem vPow {i j : Int} (h0 : 0 ≤ j) (h1 : j ≤ 1000) (h2 : i.natAbs < 1000000000) : fPow (.int i) (.int j) = some (.int (i ^ j.toNat)) := by
  show (if powOk i j = true then some (D.int (i ^ j.toNat)) else none) = _
  rw [if_pos (show powOk i j = true from okT ⟨h0, by omega, Nat.lt_of_lt_of_le h2 (by decide)⟩)]
theorem v1060 : fPow (.int 10) (.int 60) = some (.int 1000000000000000000000000000000000000000000000000000000000000) := vPow (by decide) (by decide) (by decide)
theorem vLt {i j : Int} : fLt (.int i) (.int j) = some (.bl (okP (i < j))) := rfl
theorem vLe {i j : Int} : fLe (.int i) (.int j) = some (.bl (okP (i ≤ j))) := rfl
theorem vGt {i j : Int} : fGt (.int i) (.int j) = some (.bl (okP (j < i))) := rfl
theorem vGe {i j : Int} : fGe (.int i) (.int j) = some (.bl (okP (j ≤ i))) := rfl
theorem vEqI {i j : Int} : fEq (.int i) (.int j) = some (.bl (okP (i = j))) := by simp [fCmp, D.sc, scal]
theorem vNeI {i j : Int} : fNe (.int i) (.int j) = some (.bl (!okP (i = j))) := by simp [fCmp, D.sc, scal]
theorem vEqS {i j : Str} : fEq (.str i) (.str j) = some (.bl (okP (i = j))) := by simp [fCmp, D.sc, scal]
theorem vNeS {i j : Str} : fNe (.str i) (.str j) = some (.bl (!okP (i = j))) := by simp [fCmp, D.sc, scal]
theorem vEqB {i j : Bool} : fEq (.bl i) (.bl j) = some (.bl (okP (i = j))) := by simp [fCmp, D.sc, scal]
theorem vNeB {i j : Bool} : fNe (.bl i) (.bl j) = some (.bl (!okP (i = j))) := by simp [fCmp, D.sc, scal]
theorem vEqIS {i : Int} {j : Str} : fEq (.int i) (.str j) = some (.bl false) := by simp [fCmp, D.sc, scal, okF]
theorem vEqSI {i : Int} {j : Str} : fEq (.str j) (.int i) = some (.bl false) := by simp [fCmp, D.sc, scal, okF]
theorem vNeIS {i : Int} {j : Str} : fNe (.int i) (.str j) = some (.bl true) := by simp [fCmp, D.sc, scal, okF]
theorem vNeSI {i : Int} {j : Str} : fNe (.str j) (.int i) = some (.bl true) := by simp [fCmp, D.sc, scal, okF]
theorem vCat {x y : Str} (h : x.length + y.length ≤ 16777216) : fCat (.str x) (.str y) = some (.str (x ++ y)) := by unfold fCat; simp only; rw [if_pos (len_line h)]
theorem vLenL : gLen [.lst ds] = some (.int ds.length) := rfl
theorem vLenT : gLen [.tup ds] = some (.int ds.length) := rfl
theorem vLenR : gLen [.rol ds] = some (.int ds.length) := rfl
theorem vLenS {x : Str} (h : x.length ≤ 16777216) : gLen [.str x] = some (.int x.length) := by unfold gLen; simp only; rw [if_pos (len_line h)]
theorem vIntB {b : Bool} : gInt [.bl b] = some (.int (if b then 1 else 0)) := rfl
theorem vIntI {i : Int} : gInt [.int i] = some (.int i) := rfl
theorem vIxL {i : Int} (h0 : 0 ≤ i) (h1 : i < ds.length) : ixD (.lst ds) (.int i) = some (ds.getD i.toNat .non) := by
  show atI ds i = _
  rw [atI_nth h0 h1, List.getD_eq_getElem?_getD, List.getElem?_eq_getElem (by omega)]
  rfl
theorem vIxT {i : Int} (h0 : 0 ≤ i) (h1 : i < ds.length) : ixD (.tup ds) (.int i) = some (ds.getD i.toNat .non) := vIxL h0 h1
theorem vIxR {i : Int} (h0 : 0 ≤ i) (h1 : i < ds.length) : ixD (.rol ds) (.int i) = some (ds.getD i.toNat .non) := vIxL h0 h1
theorem vIxS {x : Str} {i : Int} (h : x.length ≤ 16777216) (h0 : 0 ≤ i) (h1 : i < x.length) : ixD (.str x) (.int i) = some (.str ⟨#[x.cps.toList.getD i.toNat 0]⟩) := by
  have hl : x.cps.toList.length = x.length := by simp [Str.length]
  show (if okP (x.length ≤ sizeLine) = true then (match atI x.cps.toList i with | some c => some (D.str ⟨#[c]⟩) | none => none) else none) = _
  rw [if_pos (len_line h), atI_nth h0 (by rw [hl]; exact h1), List.getD_eq_getElem?_getD, List.getElem?_eq_getElem (by omega)]
  rfl
theorem vCatL (h : ds.length + es.length ≤ 16777216) : catD (.lst ds) (.lst es) = some (.lst (ds ++ es)) := by unfold catD; simp only; rw [if_pos (len_line h)]
theorem vCatT (h : ds.length + es.length ≤ 16777216) : catD (.tup ds) (.tup es) = some (.tup (ds ++ es)) := by unfold catD; simp only; rw [if_pos (len_line h)]
theorem vRep {n : Int} (h : imms ds = true) (h0 : -1000000 ≤ n) (h1 : n ≤ 1000000) (h2 : ds.length ≤ 16) : repD (.lst ds) (.int n) = some (.lst (List.replicate n.toNat ds).flatten) := by
  unfold repD
  simp only
  rw [if_pos (okT ⟨h, by omega, by omega, by
    rw [sLine]
    have : ds.length * n.toNat ≤ 16 * 1000000 := Nat.mul_le_mul h2 (by omega)
    omega⟩)]
theorem vTupL : tupleD (.lst ds) = some (.tup ds) := rfl
theorem vTupT : tupleD (.tup ds) = some (.tup ds) := rfl
theorem vLstL : listD (.lst ds) = some (.lst ds) := rfl
theorem vLstT : listD (.tup ds) = some (.lst ds) := rfl
theorem vLstR : listD (.rol ds) = some (.lst ds) := rfl
theorem vSlL {l u : Option Int} : slD (.lst ds) l u = some (.lst (cutD ds l u)) := rfl
theorem vSlR {l u : Option Int} : slD (.rol ds) l u = some (.lst (cutD ds l u)) := rfl
theorem vSlT {l u : Option Int} : slD (.tup ds) l u = some (.tup (cutD ds l u)) := rfl
theorem vSlS {x : Str} {l u : Option Int} (h : x.length ≤ 16777216) : slD (.str x) l u = some (.str (cutS x l u)) := by unfold slD; simp only; rw [if_pos (len_line h)]
theorem vItL : itR itLD (R.ok (.lst ds)) = R.ok ds := rfl
theorem vItsL : itR itsD (R.ok (.lst ds)) = R.ok ds := rfl
theorem vItsR : itR itsD (R.ok (.rol ds)) = R.ok ds := rfl
theorem vItT : itR itTD (R.ok (.tup ds)) = R.ok ds := rfl
theorem vItS {x : Str} : itR itSD (R.ok (.str x)) = R.ok (signsD x) := rfl
theorem vRng {j : Int} (h0 : -1000000000 ≤ j) (h1 : j ≤ 1000000000) : itA rngR (R.ok [.int j]) = R.ok (rngD 0 j.toNat) := by
  show R.of (if okP (-(2 ^ 62) ≤ j ∧ j < 2 ^ 62) = true then _ else _) = _
  rw [if_pos (okT ⟨by omega, by omega⟩)]
  rfl
theorem vRng2 {i j : Int} (h0 : -1000000000 ≤ i) (h1 : i ≤ 1000000000) (h2 : -1000000000 ≤ j) (h3 : j ≤ 1000000000) : itA rng2R (R.ok [.int i, .int j]) = R.ok (rngD i (j - i).toNat) := by
  show R.of (if okP (-(2 ^ 62) ≤ i ∧ i < 2 ^ 62 ∧ -(2 ^ 62) ≤ j ∧ j < 2 ^ 62) = true then _ else _) = _
  rw [if_pos (okT ⟨by omega, by omega, by omega, by omega⟩)]
  rfl
theorem vIsi {T : Ty} {b : Bool} (h : isTy T d = some b) : isiD T d = some (.bl b) := by unfold isiD; rw [h]; rfl
end
/-! loops -/
section
variable {τ ω : Type} {f : D → τ → R τ}
theorem forN_nil {t : τ} : forN f [] t = R.ok t := rfl
theorem forN_cons {t : τ} {x : D} {xs : List D} : forN f (x :: xs) t = (f x t).bnd (forN f xs) := rfl
theorem sat_forN_ix (I : Nat → τ → Prop) : ∀ (xs : List D) (n : Nat) (t : τ), I n t → (∀ i (hi : i < xs.length), ∀ t, I (n + i) t → (f xs[i] t).sat (I (n + i + 1))) → (forN f xs t).sat (I (n + xs.length))
  | [], n, t, h, _ => sat_ok.mpr h
  | x :: xs, n, t, h, H => by
    rw [forN_cons]
    refine sat_seq (H 0 (Nat.succ_pos _) t h) fun t' h' => ?_
    have := sat_forN_ix I xs (n + 1) t' h' fun i hi t ht => by
      have := H (i + 1) (Nat.succ_lt_succ hi) t (by rw [← Nat.add_assoc, Nat.add_right_comm]; exact ht)
      rw [show n + (i + 1) + 1 = n + 1 + i + 1 by omega] at this
      exact this
    rw [show n + (x :: xs).length = n + 1 + xs.length by rw [List.length_cons]; omega]
    exact this
theorem sat_forN (I : Nat → τ → Prop) {xs : List D} {t : τ} {Q : τ → Prop} (h0 : I 0 t) (H : ∀ i (hi : i < xs.length), ∀ t, I i t → (f xs[i] t).sat (I (i + 1))) (hQ : ∀ t, I xs.length t → Q t) : (forN f xs t).sat Q := by
  have := sat_forN_ix (f := f) I xs 0 t h0 fun i hi t ht => by
    rw [Nat.zero_add] at ht ⊢
    exact H i hi t ht
  rw [Nat.zero_add] at this
  exact this.mono hQ
theorem sat_forN_all (I : τ → Prop) {xs : List D} {t : τ} {Q : τ → Prop} (h0 : I t) (H : ∀ x ∈ xs, ∀ t, I t → (f x t).sat I) (hQ : ∀ t, I t → Q t) : (forN f xs t).sat Q :=
  sat_forN (fun _ => I) h0 (fun i hi t ht => H _ (List.getElem_mem hi) t ht) hQ
theorem sat_forN_rng (I : Nat → τ → Prop) {lo : Int} {n : Nat} {t : τ} {Q : τ → Prop} (h0 : I 0 t) (H : ∀ i, i < n → ∀ t, I i t → (f (.int (lo + (i : Nat))) t).sat (I (i + 1))) (hQ : ∀ t, I n t → Q t) : (forN f (rngD lo n) t).sat Q := by
  have hl : (rngD lo n).length = n := by simp [rngD]
  refine sat_forN I h0 (fun i hi t ht => ?_) (fun t ht => hQ t (by rw [hl] at ht; exact ht))
  have := H i (by rw [hl] at hi; exact hi) t ht
  simpa [rngD] using this
/-- a loop as a fold -/
theorem forN_fold {α σ : Type} (enc : α → D) (E : σ → τ) (F : σ → α → σ) : ∀ (l : List α) (s : σ), (∀ a ∈ l, ∀ s, f (enc a) (E s) = R.ok (E (F s a))) → forN f (l.map enc) (E s) = R.ok (E (l.foldl F s))
  | [], s, _ => rfl
  | a :: l, s, H => by
    rw [List.map_cons, forN_cons, H a List.mem_cons_self s]
    exact forN_fold enc E F l (F s a) fun b hb => H b (List.mem_cons_of_mem _ hb)
variable {fs : D → τ → R (Step τ ω)}
theorem forS_nil {t : τ} : forS fs [] t = R.ok (.nx t) := rfl
theorem forS_cons {t : τ} {x : D} {xs : List D} : forS fs (x :: xs) t = (fs x t).bnd fun s => match s with
    | .nx t' => forS fs xs t'
    | .bk t' => .ok (.nx t')
    | .rt w => .ok (.rt w) := rfl
theorem thenS_nx {t : τ} {k : τ → R ω} : thenS (R.ok (Step.nx t)) k = k t := rfl
theorem thenS_rt {w : ω} {k : τ → R ω} : thenS (R.ok (Step.rt w)) k = R.ok w := rfl
/-- a loop that may hand back: while it goes on I holds; what it hands back is so -/
theorem sat_forS_ix (I : Nat → τ → Prop) (W : ω → Prop) : ∀ (xs : List D) (n : Nat) (t : τ), I n t → (∀ i (hi : i < xs.length), ∀ t, I (n + i) t → (fs xs[i] t).sat fun s => match s with | .nx t => I (n + i + 1) t | .bk t => ∀ m, I m t | .rt w => W w) → (forS fs xs t).sat fun s => match s with | .nx t => I (n + xs.length) t | .bk _ => False | .rt w => W w
  | [], n, t, h, _ => sat_ok.mpr h
  | x :: xs, n, t, h, H => by
    rw [forS_cons]
    refine sat_seq (H 0 (Nat.succ_pos _) t h) fun s h' => ?_
    cases s with
    | nx t' =>
      have := sat_forS_ix I W xs (n + 1) t' h' fun i hi t ht => by
        have := H (i + 1) (Nat.succ_lt_succ hi) t (by rw [← Nat.add_assoc, Nat.add_right_comm]; exact ht)
        rw [show n + (i + 1) + 1 = n + 1 + i + 1 by omega] at this
        exact this
      rw [show n + (x :: xs).length = n + 1 + xs.length by rw [List.length_cons]; omega]
      exact this
    | bk t' => exact sat_ok.mpr (h' _)
    | rt w => exact sat_ok.mpr h'
theorem sat_thenS {m : R (Step τ ω)} {k : τ → R ω} {Q : ω → Prop} (h : m.sat fun s => match s with | .nx t => (k t).sat Q | .bk t => (k t).sat Q | .rt w => Q w) : (thenS m k).sat Q := by
  obtain ⟨s, e, h⟩ := h
  rw [e]
  cases s with
  | nx t => exact h
  | bk t => exact h
  | rt w => exact sat_ok.mpr h
/-- .. that always goes on, each state told -/
theorem forS_rng {lo : Int} (E : Nat → τ) : ∀ (n m : Nat), (∀ i, i < n → fs (.int (lo + ((m + i : Nat) : Int))) (E (m + i)) = R.ok (.nx (E (m + i + 1)))) → forS fs ((List.range' m n).map fun i : Nat => D.int (lo + (i : Int))) (E m) = R.ok (.nx (E (m + n)))
  | 0, m, _ => rfl
  | n + 1, m, H => by
    rw [List.range'_succ, List.map_cons, forS_cons]
    have h0 := H 0 (Nat.succ_pos _)
    rw [Nat.add_zero] at h0
    rw [h0, bnd_ok]
    have := forS_rng E n (m + 1) fun i hi => by
      have := H (i + 1) (Nat.succ_lt_succ hi)
      rw [show m + (i + 1) = m + 1 + i by omega] at this
      exact this
    rw [show m + (n + 1) = m + 1 + n by omega]
    exact this
theorem forS_rng0 {lo : Int} {n : Nat} (E : Nat → τ) (H : ∀ i, i < n → fs (.int (lo + (i : Int))) (E i) = R.ok (.nx (E (i + 1)))) : forS fs (rngD lo n) (E 0) = R.ok (.nx (E n)) := by
  have := forS_rng (fs := fs) (lo := lo) E n 0 fun i hi => by
    rw [Nat.zero_add]
    exact H i hi
  rw [Nat.zero_add] at this
  unfold rngD
  rw [List.range_eq_range']
  exact this
/-- a loop that carries nothing and always goes on -/
theorem forS_unit {f : D → Unit → R (Step Unit ω)} : ∀ xs : List D, (∀ x ∈ xs, (f x ()).sat (· = .nx ())) → forS f xs () = R.ok (.nx ())
  | [], _ => rfl
  | x :: xs, H => by
    rw [forS_cons, sat_eq (H x List.mem_cons_self), bnd_ok]
    exact forS_unit xs fun y hy => H y (List.mem_cons_of_mem _ hy)
theorem sat_forS_unit {f : D → Unit → R (Step Unit ω)} {xs : List D} {k : Unit → R ω} {Q : ω → Prop} (H : ∀ x ∈ xs, (f x ()).sat (· = .nx ())) (hk : (k ()).sat Q) : (thenS (forS f xs ()) k).sat Q := by
  rw [forS_unit xs H, thenS_nx]
  exact hk
/-! while -/
theorem runN_more {c : τ → R Bool} {b : τ → R τ} : ∀ (n : Nat) (t : τ), runN c b n t ≠ .bad → runN c b (n + 1) t = runN c b n t
  | 0, t, h => absurd rfl h
  | n + 1, t, h => by
    rw [runN] at h
    rw [runN, runN]
    cases hc : c t with
    | bad => rfl
    | ex x => rfl
    | ok v =>
      rw [hc] at h
      cases v with
      | false => rfl
      | true =>
        simp only [bnd_ok, if_true] at h ⊢
        cases hb : b t with
        | ok t' => rw [hb] at h; exact runN_more n t' h
        | _ => rfl
theorem runN_le {c : τ → R Bool} {b : τ → R τ} {n m : Nat} {t : τ} (h : runN c b n t ≠ .bad) (hm : n ≤ m) : runN c b m t = runN c b n t := by
  obtain ⟨k, rfl⟩ := Nat.exists_eq_add_of_le hm
  induction k with
  | zero => rfl
  | succ k ih =>
    have e := ih (by omega)
    have := runN_more (n + k) t (by rw [e]; exact h)
    rw [show n + (k + 1) = n + k + 1 by omega, this, e]
theorem whileN_eq {c : τ → R Bool} {b : τ → R τ} {n : Nat} {t : τ} (h : runN c b n t ≠ .bad) : whileN c b t = runN c b n t := by
  have hx : ∃ n, runN c b n t ≠ .bad := ⟨n, h⟩
  unfold whileN
  rw [dif_pos hx]
  rcases Nat.le_total n hx.choose with hl | hl
  · exact runN_le h hl
  · exact (runN_le hx.choose_spec hl).symm
theorem whileN_turn (c : τ → R Bool) (b : τ → R τ) (t : τ) : whileN c b t = (c t).bnd fun x => if x = true then (b t).bnd (whileN c b) else R.ok t := by
  by_cases hx : ∃ n, runN c b n t ≠ .bad
  · obtain ⟨n, hn⟩ := hx
    cases n with
    | zero => exact absurd rfl hn
    | succ n =>
      rw [whileN_eq hn, runN]
      cases hc : c t with
      | bad => rfl
      | ex x => rfl
      | ok v =>
        cases v with
        | false => rfl
        | true =>
          simp only [bnd_ok, if_true]
          cases hb : b t with
          | bad => rfl
          | ex x => rfl
          | ok t' =>
            have hn' : runN c b n t' ≠ .bad := by
              intro e
              apply hn
              rw [runN, hc]
              simp only [bnd_ok, if_true, hb, e]
            exact (whileN_eq hn').symm
  · have e0 : whileN c b t = .bad := by unfold whileN; rw [dif_neg hx]
    rw [e0]
    cases hc : c t with
    | bad => rfl
    | ex x =>
      exact absurd ⟨1, by rw [runN, hc]; exact fun e => by cases e⟩ hx
    | ok v =>
      cases v with
      | false => exact absurd ⟨1, by rw [runN, hc]; exact fun e => by cases e⟩ hx
      | true =>
        simp only [bnd_ok, if_true]
        cases hb : b t with
        | bad => rfl
        | ex x => exact absurd ⟨1, by rw [runN, hc]; simp only [bnd_ok, if_true, hb]; exact fun e => by cases e⟩ hx
        | ok t' =>
          show _ = whileN c b t'
          by_cases hy : ∃ n, runN c b n t' ≠ .bad
          · obtain ⟨n, hn⟩ := hy
            exact absurd ⟨n + 1, by rw [runN, hc]; simp only [bnd_ok, if_true, hb]; exact hn⟩ hx
          · unfold whileN; rw [dif_neg hy]
/-- while, by a measure: I holds at each turn -/
theorem sat_whileN {c : τ → R Bool} {b : τ → R τ} {Q : τ → Prop} (I : Nat → τ → Prop) (H : ∀ m t, I m t → (c t).sat fun v => if v = true then (b t).sat fun t' => ∃ m', m' < m ∧ I m' t' else Q t) : ∀ m t, I m t → (whileN c b t).sat Q := by
  intro m
  induction m using Nat.strongRecOn with
  | _ m ih =>
    intro t ht
    rw [whileN_turn]
    refine sat_seq (H m t ht) fun v hv => ?_
    cases v with
    | true =>
      rw [if_pos rfl] at hv ⊢
      exact sat_seq hv fun t' ⟨m', hm, h'⟩ => ih m' hm t' h'
    | false =>
      rw [if_neg (by simp)] at hv ⊢
      exact sat_ok.mpr hv
/-! comprehensions -/
theorem lcR_nil {ft : D → R Bool} {fe : D → R D} : lcR ft fe [] = R.ok [] := rfl
theorem lcR_map {α : Type} {ft : D → R Bool} {fe : D → R D} (enc g : α → D) : ∀ l : List α, (∀ a ∈ l, ft (enc a) = R.ok true ∧ fe (enc a) = R.ok (g a)) → lcR ft fe (l.map enc) = R.ok (l.map g)
  | [], _ => rfl
  | a :: l, H => by
    obtain ⟨h1, h2⟩ := H a List.mem_cons_self
    rw [List.map_cons, lcR, h1, bnd_ok, if_pos rfl, h2, bnd_ok, lcR_map enc g l fun b hb => H b (List.mem_cons_of_mem _ hb)]
    rfl
theorem lcR_filter {α : Type} {ft : D → R Bool} {fe : D → R D} (enc g : α → D) (p : α → Bool) : ∀ l : List α, (∀ a ∈ l, ft (enc a) = R.ok (p a) ∧ (p a = true → fe (enc a) = R.ok (g a))) → lcR ft fe (l.map enc) = R.ok ((l.filter p).map g)
  | [], _ => rfl
  | a :: l, H => by
    obtain ⟨h1, h2⟩ := H a List.mem_cons_self
    have ih := lcR_filter enc g p l fun b hb => H b (List.mem_cons_of_mem _ hb)
    rw [List.map_cons, lcR, h1, bnd_ok]
    cases hp : p a with
    | true => rw [if_pos rfl, h2 hp, bnd_ok, ih, List.filter_cons_of_pos hp]; rfl
    | false => rw [if_neg (by simp), ih, List.filter_cons_of_neg (by simp [hp])]
theorem sat_lcR {ft : D → R Bool} {fe : D → R D} (P : D → Prop) : ∀ l : List D, (∀ d ∈ l, (ft d).sat fun b => b = true → (fe d).sat P) → (lcR ft fe l).sat fun ys => (∀ y ∈ ys, P y) ∧ ys.length ≤ l.length
  | [], _ => sat_ok.mpr ⟨(fun y hy => by cases hy), Nat.le_refl _⟩
  | d :: l, H => by
    have ih := sat_lcR P l fun b hb => H b (List.mem_cons_of_mem _ hb)
    rw [lcR]
    refine sat_seq (H d List.mem_cons_self) fun b hb => ?_
    cases b with
    | true =>
      rw [if_pos rfl]
      refine sat_seq (hb rfl) fun y hy => sat_seq ih fun ys ⟨h1, h2⟩ => sat_ok.mpr ⟨fun z hz => ?_, by simp only [List.length_cons]; omega⟩
      rcases List.mem_cons.mp hz with rfl | hz
      · exact hy
      · exact h1 z hz
    | false =>
      rw [if_neg (by simp)]
      exact ih.mono fun ys ⟨h1, h2⟩ => ⟨h1, by simp only [List.length_cons]; omega⟩
theorem lcD_ok {ft : D → R Bool} {fe : D → R D} {ds ys : List D} (h : lcR ft fe ds = R.ok ys) (hl : ds.length ≤ 16777216) : lcD (R.ok ds) ft fe = R.ok (.lst ys) := by
  unfold lcD
  rw [bnd_ok, h, bnd_ok, if_pos (len_line hl)]
theorem sat_lcD {ft : D → R Bool} {fe : D → R D} {ds : List D} {Q : D → Prop} (P : D → Prop) (h : ∀ d ∈ ds, (ft d).sat fun b => b = true → (fe d).sat P) (hl : ds.length ≤ 16777216) (hQ : ∀ ys, (∀ y ∈ ys, P y) → ys.length ≤ ds.length → Q (.lst ys)) : (lcD (R.ok ds) ft fe).sat Q := by
  obtain ⟨ys, e, h1, h2⟩ := sat_lcR P ds h
  exact ⟨.lst ys, lcD_ok e hl, hQ ys h1 h2⟩
end
/-! defs -/
theorem noexF_eq {p : List D → R (D × List D)} {ds : List D} : noexF p ds = (p ds).noex := rfl
theorem ar1_eq {α : Type} {f : D → R α} {a : D} : ar1 f [a] = f a := rfl
theorem ar2_eq {α : Type} {f : D → D → R α} {a b : D} : ar2 f [a, b] = f a b := rfl
theorem ar3_eq {α : Type} {f : D → D → D → R α} {a b c : D} : ar3 f [a, b, c] = f a b c := rfl
theorem ar4_eq {α : Type} {f : D → D → D → D → R α} {a b c d : D} : ar4 f [a, b, c, d] = f a b c d := rfl
theorem ar5_eq {α : Type} {f : D → D → D → D → D → R α} {a b c d e : D} : ar5 f [a, b, c, d, e] = f a b c d e := rfl
theorem law_of {g : FS} {p : List D → R (D × List D)} (F : FRef g [false] p) (h : ∀ ns : List Int, ns.length ≤ 63 → (p [.rol (ns.map D.int)]).sat fun r => r.1 = .bl true) : ∀ ns : List Int, ns.length ≤ 63 → ∃ us, g [.rol (ns.map D.int)] = .ok (.bl true) us := fun ns hn => by
  obtain ⟨r, e, hr⟩ := h ns hn
  have := F [.rol (ns.map D.int)]
  rw [e] at this
  obtain ⟨_, us, h2, _⟩ := this
  exact ⟨us, by rw [h2, hr]⟩
end DL
end DLsec28
set_option maxRecDepth 100000
noncomputable section DLsec29
/-! DL29: reversed(..) walked, sorted numbers, x[i].append(y). -/
namespace DL
open PySem PySem.Spec PyProof.Rows L2 RT
section
variable {X : Cx} {e : Expr} {p pos : Pos} {s : SE}
/-! ### for i in reversed(range(..)) -/
def sRevR (s : DEnv → Option (Int × Int)) : SI := fun ρ => match s ρ with
  | some (i, j) => if okP (-(2 ^ 62) ≤ i ∧ i < 2 ^ 62 ∧ -(2 ^ 62) ≤ j ∧ j < 2 ^ 62) = true then some ((rngD i (j - i).toNat).reverse, none) else none
  | none => none
theorem rngD_rev {lo : Int} {n i : Nat} (h : i < n) : (rngD lo n).reverse[i]? = some (.int (lo + (n : Nat) - 1 + (i : Nat) * (-1))) := by
  have hl : (rngD lo n).length = n := by simp [rngD]
  rw [List.getElem?_reverse (by rw [hl]; exact h), hl, rngD_get (by omega)]
  congr 2
  omega
theorem iRevR {tg : Expr} {s : DEnv → Option (Int × Int)} (hm : X.mg "reversed" = none) (he : PPR X e s) (hg : Gl X "reversed" := by rfl) (hs : starEach [e] X.env = (false, eval e X.env) :: starEach [] X.env := by rfl) : PPI X tg (.Call (.Name "reversed" p) [e] [] pos) (sRevR s) := by
  obtain ⟨t, ht, go⟩ := he.run
  refine ⟨fun C ρ σ H Fs ds k R E h q => WI.of (pi_revR hg hm ht hs) ?_⟩
  unfold sRevR at h
  split at h
  · rename_i i j h1
    split at h
    · rename_i hj0
      have hj := okP_iff.mp hj0
      cases h
      refine go C ρ σ H Fs i j _ E h1 fun H1 s1 => ⟨hj.1, hj.2.1, hj.2.2.1, hj.2.2.2, q _ H1 [] s1 (fun a ha => by cases ha) (fun a ha => by cases ha) ?_⟩
      have hl : (rngD i (j - i).toNat).reverse.length = (j - i).toNat := by simp [rngD]
      refine ⟨fun k H s hi => by rw [hl] at hi; exact hi, fun k H x H' d s hd hy => ?_, fun k H s hi => by rw [hl] at hi; exact hi⟩
      obtain ⟨rfl, rfl⟩ := hy
      have hk : k < (j - i).toNat := by
        have := (List.getElem?_eq_some_iff.mp hd).1
        rw [hl] at this
        exact this
      rw [rngD_rev hk] at hd
      cases hd
      exact ⟨Same.refl _, [], (fun a ha => by cases ha), rfl, rfl⟩
    · cases h
  · cases h
/-! ### for x in reversed(xs) -/
def sRevL (s : SE) : SI := fun ρ => match s ρ with
  | some (.lst ds, k) => some (ds.reverse, k)
  | some (.rol ds, k) => some (ds.reverse, k)
  | some (.tup ds, k) => some (ds.reverse, k)
  | _ => none
theorem rev_get {α : Type} {l : List α} {i : Nat} {x : α} (h : l.reverse[i]? = some x) : l[l.length - 1 - i]? = some x := by
  have hlt : i < l.length := by
    have := (List.getElem?_eq_some_iff.mp h).1
    simpa using this
  rw [List.getElem?_reverse hlt] at h
  exact h
theorem iRevL {tg : Expr} (hm : X.mg "reversed" = none) (h : PP X e s) (hg : Gl X "reversed" := by rfl) (hs : starEach [e] X.env = (false, eval e X.env) :: starEach [] X.env := by rfl) : PPI X tg (.Call (.Name "reversed" p) [e] [] pos) (sRevL s) := by
  refine ⟨fun C ρ σ H Fs ds k R E hs0 q => WI.of (pi_revA hg hm (we X e) hs) ?_⟩
  unfold sRevL at hs0
  split at hs0
  · rename_i es k1 h1
    cases hs0
    refine h.run C ρ σ H Fs _ k _ E h1 fun v H1 F s1 r1 => ?_
    have tr : ∀ a ∈ F, ∃ u, H1 a = some u ∧ Mu u := Rep.tr _ v F r1.rep
    have hm := r1.mem
    obtain ⟨a, vs, G, rfl, hl, rfl, r2⟩ := r1.lst
    have st : ∀ H', Same (keepH H1 (a :: G)) H' → SqL X.K H' a vs ∧ Reps X.K H' false es vs G := fun H' s =>
      ⟨SqL.of (by rw [keepH_at s List.mem_cons_self hl trivial]; exact hl), reps_keep s (fun b hb => List.mem_cons_of_mem _ hb) r2.rep⟩
    have hlen : vs.length = es.length := Reps.len r2.rep
    refine ⟨a, vs, rfl, .inl ⟨SqL.of hl, q _ H1 (a :: G) s1 tr hm ⟨fun i H' s hi => ?_, fun i H' x H2 d s hd hy => ?_, fun i H' s hi => ?_⟩⟩⟩
    · obtain ⟨h2, r3⟩ := st H' s
      rw [List.length_reverse] at hi
      have hlt : vs.length - 1 - i < vs.length := by omega
      exact ⟨by omega, vs, vs[vs.length - 1 - i], h2, List.getElem?_eq_getElem hlt⟩
    · obtain ⟨h2, r3⟩ := st H' s
      obtain ⟨rfl, hx⟩ := hy
      obtain ⟨w, G', e1, r4, sub⟩ := Reps.get r3 (rev_get hd)
      have := hx vs h2
      rw [hlen, e1] at this
      cases this
      exact ⟨Same.refl _, G', fun b hb => List.mem_cons_of_mem _ (sub.subset hb), r4⟩
    · rw [List.length_reverse] at hi
      show vs.length ≤ i
      omega
  · rename_i es k1 h1
    cases hs0
    refine h.run C ρ σ H Fs _ k _ E h1 fun v H1 F s1 r1 => ?_
    have tr : ∀ a ∈ F, ∃ u, H1 a = some u ∧ Mu u := Rep.tr _ v F r1.rep
    have hm := r1.mem
    obtain ⟨a, vs, rfl, hl, hr⟩ := r1.rep
    have st : ∀ H', Same (keepH H1 F) H' → SqL X.K H' a vs ∧ Reps X.K H' false es vs F := fun H' s => ⟨(roL_kp (keepH_kp s) hl).sq, reps_keep s (fun b hb => hb) hr⟩
    have hlen : vs.length = es.length := Reps.len hr
    refine ⟨a, vs, rfl, .inl ⟨hl.sq, q _ H1 F s1 tr hm ⟨fun i H' s hi => ?_, fun i H' x H2 d s hd hy => ?_, fun i H' s hi => ?_⟩⟩⟩
    · obtain ⟨h2, r3⟩ := st H' s
      rw [List.length_reverse] at hi
      have hlt : vs.length - 1 - i < vs.length := by omega
      exact ⟨by omega, vs, vs[vs.length - 1 - i], h2, List.getElem?_eq_getElem hlt⟩
    · obtain ⟨h2, r3⟩ := st H' s
      obtain ⟨rfl, hx⟩ := hy
      obtain ⟨w, G', e1, r4, sub⟩ := Reps.get r3 (rev_get hd)
      have := hx vs h2
      rw [hlen, e1] at this
      cases this
      exact ⟨Same.refl _, G', fun b hb => sub.subset hb, r4⟩
    · rw [List.length_reverse] at hi
      show vs.length ≤ i
      omega
  · rename_i es k1 h1
    cases hs0
    refine h.run C ρ σ H Fs _ k _ E h1 fun v H1 F s1 r1 => ?_
    have tr : ∀ a ∈ F, ∃ u, H1 a = some u ∧ Mu u := Rep.tr _ v F r1.rep
    have hm := r1.mem
    obtain ⟨a, vs, rfl, hl, hr⟩ := r1.rep
    have st : ∀ H', Same (keepH H1 F) H' → SqT X.K H' a vs ∧ Reps X.K H' false es vs F := fun H' s => ⟨SqT.of ((keepH_kp s).tup _ _ hl), reps_keep s (fun b hb => hb) hr⟩
    have hlen : vs.length = es.length := Reps.len hr
    refine ⟨a, vs, rfl, .inr ⟨SqT.of hl, q _ H1 F s1 tr hm ⟨fun i H' s hi => ?_, fun i H' x H2 d s hd hy => ?_, fun i H' s hi => ?_⟩⟩⟩
    · obtain ⟨h2, r3⟩ := st H' s
      rw [List.length_reverse] at hi
      have hlt : vs.length - 1 - i < vs.length := by omega
      exact ⟨by omega, vs, vs[vs.length - 1 - i], h2, List.getElem?_eq_getElem hlt⟩
    · obtain ⟨h2, r3⟩ := st H' s
      obtain ⟨rfl, hx⟩ := hy
      obtain ⟨w, G', e1, r4, sub⟩ := Reps.get r3 (rev_get hd)
      have := hx vs h2
      rw [hlen, e1] at this
      cases this
      exact ⟨Same.refl _, G', fun b hb => sub.subset hb, r4⟩
    · rw [List.length_reverse] at hi
      show vs.length ≤ i
      omega
  · cases hs0
/-! ### sorted numbers -/
def insI (a : Int) : List Int → List Int
  | [] => [a]
  | b :: l => if a ≤ b then a :: b :: l else b :: insI a l
def sortI : List Int → List Int
  | [] => []
  | a :: l => insI a (sortI l)
theorem insI_perm (a : Int) : ∀ l : List Int, (insI a l).Perm (a :: l)
  | [] => .refl _
  | b :: l => by
    unfold insI
    split
    · exact .refl _
    · exact ((insI_perm a l).cons b).trans (.swap a b l)
theorem insI_mem {a x : Int} {l : List Int} : x ∈ insI a l ↔ x = a ∨ x ∈ l := by rw [(insI_perm a l).mem_iff, List.mem_cons]
theorem insI_sorted (a : Int) : ∀ l : List Int, l.Pairwise (· ≤ ·) → (insI a l).Pairwise (· ≤ ·)
  | [], _ => List.pairwise_singleton _ _
  | b :: l, h => by
    unfold insI
    have h1 := List.pairwise_cons.mp h
    split
    · rename_i hab
      exact List.pairwise_cons.mpr ⟨fun x hx => by
        rcases List.mem_cons.mp hx with rfl | hx
        · exact hab
        · exact Int.le_trans hab (h1.1 x hx), h⟩
    · rename_i hab
      exact List.pairwise_cons.mpr ⟨fun x hx => by
        rcases insI_mem.mp hx with rfl | hx
        · omega
        · exact h1.1 x hx, insI_sorted a l h1.2⟩
theorem sortI_perm : ∀ l : List Int, (sortI l).Perm l
  | [] => .refl _
  | a :: l => (insI_perm a _).trans ((sortI_perm l).cons a)
theorem sortI_sorted : ∀ l : List Int, (sortI l).Pairwise (· ≤ ·)
  | [] => .nil
  | a :: l => insI_sorted a _ (sortI_sorted l)
theorem sorted_one : ∀ {l k : List Int}, l.Perm k → l.Pairwise (· ≤ ·) → k.Pairwise (· ≤ ·) → l = k
  | [], k, p, _, _ => p.nil_eq
  | a :: l, [], p, _, _ => absurd p.length_eq (by simp)
  | a :: l, b :: k, p, h1, h2 => by
    have q1 := List.pairwise_cons.mp h1
    have q2 := List.pairwise_cons.mp h2
    have e : a = b := by
      have m1 : a ∈ b :: k := p.mem_iff.mp List.mem_cons_self
      have m2 : b ∈ a :: l := p.mem_iff.mpr List.mem_cons_self
      rcases List.mem_cons.mp m1 with m1 | m1
      · exact m1
      · rcases List.mem_cons.mp m2 with m2 | m2
        · exact m2.symm
        · have a1 := q2.1 a m1
          have a2 := q1.1 b m2
          omega
    subst e
    rw [sorted_one (List.Perm.cons_inv p) q1.2 q2.2]
def sortD : D → Option D
  | .lst ds => (match intsD ds with
    | some ns => some (.lst ((sortI ns).map .int))
    | none => none)
  | _ => none
def sSortI (s : SE) : SE := fun ρ => match s ρ with
  | some (d, _) => (match sortD d with
    | some z => some (z, none)
    | none => none)
  | none => none
theorem dSortI (hm : X.mg "sorted" = none) (h : PP X e s) (hg : Gl X "sorted" := by rfl) (he : starEach [e] X.env = (false, eval e X.env) :: starEach [] X.env := by rfl) (hpl : (backTo pos (starEach [] X.env)).any (·.1) = false := by rfl) : PP X (.Call (.Name "sorted" p) [e] [] pos) (sSortI s) := by
  refine ⟨fun C ρ σ H Fs d k Q E hs q => ?_⟩
  unfold sSortI at hs
  cases h1 : s ρ with
  | none => rw [h1] at hs; cases hs
  | some dk =>
    obtain ⟨x, kx⟩ := dk
    rw [h1] at hs
    cases x with
    | lst ds =>
      cases hb : intsD ds with
      | none => simp only [sortD, hb] at hs; cases hs
      | some ns =>
        simp only [sortD, hb] at hs
        cases hs
        have ha : PPA X [e] (sACons s sANil) := dACons h dANil (hs := he)
        refine WE.of (pe_callB cr_sortedI hg hm PyProof.Rows.boot_sorted (wa X _) (by decide) (by decide) he hpl) ?_
        refine ha.run C ρ σ H Fs [(.lst ds, kx)] _ E (by unfold sACons sANil; rw [h1]) fun vs H1 Gs s1 r => ?_
        obtain ⟨v, rfl, a, ws, G, rfl, r2, hl, _⟩ := reps1 r.all.rep
        refine ⟨a, ns, rfl, SqL.of (by rw [← intsD_rep hb r2]; exact hl), fun ns' q0 hp hsrt hq => ?_⟩
        have e2 : ns' = sortI ns := sorted_one (hp.trans (sortI_perm ns).symm) hsrt (sortI_sorted ns)
        subst e2
        have r0 : RepsR X.K H H1 Fs none ((sortI ns).map .int) ((sortI ns).map V.int) [] := ⟨reps_ints _, List.nodup_nil, fun a ha => by cases ha⟩
        exact q _ _ _ (s1.trans (same_new hq)) (r0.newL s1 hq)
    | _ => simp only [sortD] at hs; cases hs
end
/-! ### plain -/
section
variable {ps : List Pt} {sa sb : SE} {ma mb : R D} {XE : DEnv → Prop}
theorem ef_sort (ha : Ee sa ps ma) : Ef (sSortI sa) ps (un1 sortD ma) := fun ρ e => post_bnd (ha ρ e) nox fun x ⟨k, ex⟩ => post_of fun z hz => by
  show sSortI sa ρ = some (z, none)
  unfold sSortI
  rw [ex]
  simp only [hz]
def Er (s : DEnv → Option (Int × Int)) (ps : List Pt) (m : R (Int × Int)) : Prop := ∀ ρ, EPs ps ρ → m.post (fun ij => s ρ = some ij) NoX
def rgR1 (m : R D) : R (Int × Int) := m.bnd fun d => match d with | .int n => .ok (0, n) | _ => .bad
def rgR2 (m n : R D) : R (Int × Int) := m.bnd fun d => n.bnd fun e => match d, e with | .int i, .int j => .ok (i, j) | _, _ => .bad
theorem er_1 (ha : Ee sa ps ma) : Er (sRg1 sa) ps (rgR1 ma) := fun ρ e => post_bnd (ha ρ e) nox fun x ⟨k, ex⟩ => by
  cases x <;> first | trivial | (show sRg1 sa ρ = _; unfold sRg1; rw [ex])
theorem er_2 (ha : Ee sa ps ma) (hb : Ee sb ps mb) : Er (sRg2 sa sb) ps (rgR2 ma mb) := fun ρ e => post_bnd (ha ρ e) nox fun x ⟨k, ex⟩ => post_bnd (hb ρ e) nox fun y ⟨k', ey⟩ => by
  cases x with
  | int i => cases y <;> first | trivial | (show sRg2 sa sb ρ = _; unfold sRg2; rw [ex, ey])
  | _ => trivial
def lstRg (m : R (Int × Int)) : R D := m.bnd fun ij => if okP (RgOk ij.1 ij.2) = true then .ok (.lst (rngD ij.1 (ij.2 - ij.1).toNat)) else .bad
theorem ef_lstRg {s : DEnv → Option (Int × Int)} {m : R (Int × Int)} (h : Er s ps m) : Ef (sLstRg s) ps (lstRg m) := fun ρ e => post_bnd (h ρ e) nox fun ij eij => by
  split
  · rename_i hc
    show sLstRg s ρ = _
    unfold sLstRg
    rw [show s ρ = some (ij.1, ij.2) from eij]
    simp only [hc, if_true]
  · trivial
def revRg (m : R (Int × Int)) : R (List D) := m.bnd fun ij => if okP (-(2 ^ 62) ≤ ij.1 ∧ ij.1 < 2 ^ 62 ∧ -(2 ^ 62) ≤ ij.2 ∧ ij.2 < 2 ^ 62) = true then .ok (rngD ij.1 (ij.2 - ij.1).toNat).reverse else .bad
theorem ei_revR {s : DEnv → Option (Int × Int)} {m : R (Int × Int)} (h : Er s ps m) : Ei (sRevR s) ps (revRg m) := fun ρ e => post_bnd (h ρ e) nox fun ij eij => by
  split
  · rename_i hc
    show sRevR s ρ = _
    unfold sRevR
    rw [show s ρ = some (ij.1, ij.2) from eij]
    simp only [hc, if_true]
  · trivial
def itRev : D → Option (List D)
  | .lst ds => some ds.reverse
  | .rol ds => some ds.reverse
  | .tup ds => some ds.reverse
  | _ => none
theorem ei_rev (ha : Ef sa ps ma) : Ei (sRevL sa) ps (itR itRev ma) := fun ρ e => post_bnd (ha ρ e) nox fun x ex => post_of fun z hz => by
  have ex : sa ρ = some (x, none) := ex
  show sRevL sa ρ = some (z, none)
  unfold sRevL
  rw [ex]
  cases x <;> first | (cases hz; rfl) | cases hz
def itRevL : D → Option (List D)
  | .lst ds => some ds.reverse
  | _ => none
theorem eik_rev {i : Nat} {p : Pt} {d : D} (h : ps[i]? = some p) (v : p.val = some d) : Eik (sRevL (sV i)) (some [i]) ps (itR itRevL (.ok d)) := fun ρ e => by
  obtain ⟨m, hm⟩ := e.val h v
  show (R.of (itRevL d)).post _ _
  refine post_of fun ds hds => ?_
  cases d with
  | lst es =>
    cases hds
    show sRevL (sV i) ρ = _
    unfold sRevL sV
    rw [hm]
    rfl
  | _ => cases hds
theorem vLstRg2 {a b : Int} (h0 : 0 ≤ a) (h1 : b ≤ 16777216) (h2 : a ≤ 16777216) (h3 : 0 ≤ b) : lstRg (rgR2 (R.ok (.int a)) (R.ok (.int b))) = R.ok (.lst (rngD a (b - a).toNat)) := by
  show (if okP (RgOk a b) = true then _ else _) = _
  rw [if_pos (okT (RgOk.of_le h0 h1 h2 h3))]
theorem vLstRg1 {b : Int} (h1 : b ≤ 16777216) (h3 : 0 ≤ b) : lstRg (rgR1 (R.ok (.int b))) = R.ok (.lst (rngD 0 b.toNat)) := by
  show (if okP (RgOk 0 b) = true then R.ok (D.lst (rngD 0 (b - 0).toNat)) else _) = _
  rw [if_pos (okT (RgOk.of_le (Int.le_refl 0) h1 (by omega) h3)), Int.sub_zero]
theorem vRevRg1 {n : Int} (h0 : 0 ≤ n) (h1 : n ≤ 1000000000) : revRg (rgR1 (R.ok (.int n))) = R.ok (rngD 0 n.toNat).reverse := by
  show (if okP (-(2 ^ 62) ≤ (0 : Int) ∧ (0 : Int) < 2 ^ 62 ∧ -(2 ^ 62) ≤ n ∧ n < 2 ^ 62) = true then R.ok (rngD 0 (n - 0).toNat).reverse else .bad) = _
  rw [if_pos (okT ⟨by omega, by omega, by omega, by omega⟩), Int.sub_zero]
theorem vRevL {ds : List D} : itR itRev (R.ok (.lst ds)) = R.ok ds.reverse := rfl
theorem vRevT {ds : List D} : itR itRev (R.ok (.tup ds)) = R.ok ds.reverse := rfl
theorem vRevLL {ds : List D} : itR itRevL (R.ok (.lst ds)) = R.ok ds.reverse := rfl
/-! x[i].append(y) -/
variable {τ : Type}
def atIn (d j : D) : R (Nat × List D × List D) := match d, j with
  | .lst ds, .int z => (match ixN ds.length z with
    | some n => (match ds[n]? with
      | some (.lst es) => .ok (n, es, ds)
      | _ => .bad)
    | none => .bad)
  | _, _ => .bad
def appAt (d : D) (mj : R D) (m : R (D × τ)) : R (D × (τ × D)) := mj.bnd fun j => (atIn d j).bnd fun q => m.bnd fun r => if okP (q.2.1.length < sizeLine) = true then .ok (.non, (r.2, .lst (q.2.2.set q.1 (.lst (q.2.1 ++ [r.1]))))) else .bad
theorem atIn_ok {d j : D} {q : Nat × List D × List D} (h : atIn d j = .ok q) : ∃ z, d = .lst q.2.2 ∧ j = .int z ∧ ixN q.2.2.length z = some q.1 ∧ q.2.2[q.1]? = some (.lst q.2.1) := by
  unfold atIn at h
  split at h
  · split at h
    · rename_i n hn
      split at h
      · rename_i es he
        cases h
        exact ⟨_, rfl, rfl, hn, he⟩
      · cases h
    · cases h
  · cases h
theorem atIn_ex {d j : D} {x : Xn} : atIn d j ≠ .ex x := by
  intro h
  unfold atIn at h
  split at h
  · split at h
    · split at h <;> cases h
    · cases h
  · cases h
theorem xe_appAt {i : Nat} {js : List Nat} {six : SE} {sb : SX} {p : Pt} {d : D} {mj : R D} {m : R (D × τ)} {post : τ → List Pt} (h : ps[i]? = some p) (v : p.own = some d) (hj : Ee six ps mj) (hb : Ex sb ps XE m post) (hn : i ∉ js) :
    Ex (sAppendAt i js six sb) ps XE (appAt d mj m) (fun t => (post t.1).set i (p.upd t.2)) := fun ρ e => by
  have b := hb ρ e
  obtain ⟨md, g1, g2, g3⟩ := e.own h v
  refine post_bnd (hj ρ e) nox fun j ⟨kj, ej⟩ => ?_
  cases hq : atIn d j with
  | bad => trivial
  | ex x => exact absurd hq atIn_ex
  | ok q =>
    obtain ⟨z, rfl, rfl, q1, q2⟩ := atIn_ok hq
    have u : sAppendAt i js six sb ρ = (match sb ρ with
        | .ok y ky ρ2 => if okP (md.o = true ∧ (y.imm = true ∨ ky = none) ∧ q.2.1.length < sizeLine ∧ i ∉ js) = true then .ok .non none (ρ2.set i (some (.lst (q.2.2.set q.1 (.lst (q.2.1 ++ [y]))), md))) else .bad
        | .ex x ρ2 => .ex x ρ2
        | .bad => .bad) := by
      unfold sAppendAt
      rw [ej, g1]
      simp only [q1, q2]
      all_goals rfl
    rw [u]
    show (m.bnd _).post _ _
    cases m with
    | bad => trivial
    | ex x =>
      obtain ⟨ρ', h1, h2⟩ := b
      exact ⟨ρ', by rw [h1], h2⟩
    | ok r =>
      obtain ⟨ρ', h1, h2⟩ := b
      show (if okP (q.2.1.length < sizeLine) = true then _ else _ : R _).post _ _
      split
      · rename_i hc
        refine ⟨ρ'.set i (some (.lst (q.2.2.set q.1 (.lst (q.2.1 ++ [r.1]))), md)), ?_, h2.set (g3 _)⟩
        rw [h1]
        simp only
        rw [if_pos (okP_iff.mpr ⟨g2, .inr trivial, okP_iff.mp hc, hn⟩)]
      · trivial
end
end DL
end DLsec29
set_option maxRecDepth 100000
noncomputable section DLsec30
/-! DL30: equality of plain data, as equality. -/
namespace DL
open PySem PySem.Spec PyProof.Rows L2
mutual
/-- numbers, texts, None, tuples and lists of such, nested to depth n -/
def plD : Nat → D → Bool
  | _, .non => true
  | _, .int _ => true
  | _, .str x => PyData.strOk x
  | n + 1, .tup ds => plDs n ds
  | n + 1, .lst ds => plDs n ds
  | _, _ => false
def plDs : Nat → List D → Bool
  | _, [] => true
  | n, d :: ds => plD n d && plDs n ds
end
mutual
theorem plD_py : ∀ (n : Nat) (d : D), plD n d = true → ∃ p, py d = some p ∧ p.canLay0 = true ∧ p.depth ≤ n
  | _, .non, _ => ⟨_, rfl, rfl, Nat.zero_le _⟩
  | _, .int _, _ => ⟨_, rfl, rfl, Nat.zero_le _⟩
  | _, .str x, h => ⟨_, rfl, (by rw [plD] at h; exact h), Nat.zero_le _⟩
  | n + 1, .tup ds, h => by
    rw [plD] at h
    obtain ⟨l, e, h1, h2⟩ := plDs_py n ds h
    refine ⟨.tuple l, by simp only [py, e], by simpa [PyData.canLay0] using h1, ?_⟩
    simp only [PyData.depth]
    omega
  | n + 1, .lst ds, h => by
    rw [plD] at h
    obtain ⟨l, e, h1, h2⟩ := plDs_py n ds h
    refine ⟨.list l, by simp only [py, e], by simpa [PyData.canLay0] using h1, ?_⟩
    simp only [PyData.depth]
    omega
  | 0, .tup _, h => by simp [plD] at h
  | 0, .lst _, h => by simp [plD] at h
  | _, .bl _, h => by simp [plD] at h
  | _, .rol _, h => by simp [plD] at h
  | _, .dK _ _, h => by simp [plD] at h
  | _, .dT _ _, h => by simp [plD] at h
  | _, .opq _, h => by simp [plD] at h
theorem plDs_py : ∀ (n : Nat) (ds : List D), plDs n ds = true → ∃ l, pys ds = some l ∧ PyData.canLayAll0 l = true ∧ PyData.depthAll l ≤ n
  | _, [], _ => ⟨[], rfl, rfl, Nat.zero_le _⟩
  | n, d :: ds, h => by
    rw [plDs, Bool.and_eq_true] at h
    obtain ⟨p, e, h1, h2⟩ := plD_py n d h.1
    obtain ⟨l, e', h1', h2'⟩ := plDs_py n ds h.2
    refine ⟨p :: l, by simp only [pys, e, e'], by simp [PyData.canLayAll0, h1, h1'], ?_⟩
    simp only [PyData.depthAll]
    omega
end
mutual
theorem eqv_eq : ∀ (n : Nat) (d e : D), plD n d = true → plD n e = true → ∀ p q, py d = some p → py e = some q → (PyData.eqv p q = true ↔ d = e)
  | _, .non, e, _, he, p, q, hp, hq => by
    cases hp
    cases e <;> simp only [plD, Bool.false_eq_true] at he <;> first
      | (cases hq; simp [PyData.eqv])
      | (rename_i ds; cases h : pys ds <;> simp only [py, h, reduceCtorEq] at hq; cases hq; simp [PyData.eqv])
  | _, .int i, e, _, he, p, q, hp, hq => by
    cases hp
    cases e <;> simp only [plD, Bool.false_eq_true] at he <;> first
      | (cases hq; simp [PyData.eqv])
      | (rename_i ds; cases h : pys ds <;> simp only [py, h, reduceCtorEq] at hq; cases hq; simp [PyData.eqv])
  | _, .str i, e, _, he, p, q, hp, hq => by
    cases hp
    cases e <;> simp only [plD, Bool.false_eq_true] at he <;> first
      | (cases hq; simp [PyData.eqv])
      | (rename_i ds; cases h : pys ds <;> simp only [py, h, reduceCtorEq] at hq; cases hq; simp [PyData.eqv])
  | n + 1, .tup ds, e, hd, he, p, q, hp, hq => by
    rw [plD] at hd
    cases h1 : pys ds with
    | none => simp only [py, h1, reduceCtorEq] at hp
    | some l =>
      simp only [py, h1] at hp
      cases hp
      cases e with
      | tup es =>
        rw [plD] at he
        cases h2 : pys es with
        | none => simp only [py, h2, reduceCtorEq] at hq
        | some k =>
          simp only [py, h2] at hq
          cases hq
          rw [PyData.eqv, eqvs_eq n ds es hd he l k h1 h2, D.tup.injEq]
      | lst es => cases h2 : pys es <;> simp only [py, h2, reduceCtorEq] at hq; cases hq; simp [PyData.eqv]
      | _ => first | (simp [plD] at he; done) | (cases hq; simp [PyData.eqv])
  | n + 1, .lst ds, e, hd, he, p, q, hp, hq => by
    rw [plD] at hd
    cases h1 : pys ds with
    | none => simp only [py, h1, reduceCtorEq] at hp
    | some l =>
      simp only [py, h1] at hp
      cases hp
      cases e with
      | lst es =>
        rw [plD] at he
        cases h2 : pys es with
        | none => simp only [py, h2, reduceCtorEq] at hq
        | some k =>
          simp only [py, h2] at hq
          cases hq
          rw [PyData.eqv, eqvs_eq n ds es hd he l k h1 h2, D.lst.injEq]
      | tup es => cases h2 : pys es <;> simp only [py, h2, reduceCtorEq] at hq; cases hq; simp [PyData.eqv]
      | _ => first | (simp [plD] at he; done) | (cases hq; simp [PyData.eqv])
  | 0, .tup _, _, h, _, _, _, _, _ => by simp [plD] at h
  | 0, .lst _, _, h, _, _, _, _, _ => by simp [plD] at h
  | _, .bl _, _, h, _, _, _, _, _ => by simp [plD] at h
  | _, .rol _, _, h, _, _, _, _, _ => by simp [plD] at h
  | _, .dK _ _, _, h, _, _, _, _, _ => by simp [plD] at h
  | _, .dT _ _, _, h, _, _, _, _, _ => by simp [plD] at h
  | _, .opq _, _, h, _, _, _, _, _ => by simp [plD] at h
theorem eqvs_eq : ∀ (n : Nat) (ds es : List D), plDs n ds = true → plDs n es = true → ∀ l k, pys ds = some l → pys es = some k → (PyData.eqvAll l k = true ↔ ds = es)
  | _, [], [], _, _, l, k, hl, hk => by cases hl; cases hk; simp [PyData.eqvAll]
  | _, [], e :: es, _, _, l, k, hl, hk => by
    cases hl
    cases h1 : py e <;> simp only [pys, h1, reduceCtorEq] at hk
    cases h2 : pys es <;> simp only [h2, reduceCtorEq] at hk
    cases hk
    simp [PyData.eqvAll]
  | _, d :: ds, [], _, _, l, k, hl, hk => by
    cases hk
    cases h1 : py d <;> simp only [pys, h1, reduceCtorEq] at hl
    cases h2 : pys ds <;> simp only [h2, reduceCtorEq] at hl
    cases hl
    simp [PyData.eqvAll]
  | n, d :: ds, e :: es, hd, he, l, k, hl, hk => by
    rw [plDs, Bool.and_eq_true] at hd he
    cases h1 : py d <;> simp only [pys, h1, reduceCtorEq] at hl
    cases h2 : pys ds <;> simp only [h2, reduceCtorEq] at hl
    cases h3 : py e <;> simp only [pys, h3, reduceCtorEq] at hk
    cases h4 : pys es <;> simp only [h4, reduceCtorEq] at hk
    cases hl
    cases hk
    rw [PyData.eqvAll, Bool.and_eq_true, eqv_eq n d e hd.1 he.1 _ _ h1 h3, eqvs_eq n ds es hd.2 he.2 _ _ h2 h4, List.cons.injEq]
end
theorem vEqD {x y : D} (n : Nat) (h1 : plD n x = true) (h2 : plD n y = true) (hn : n ≤ 64 := by decide) : fEqD x y = some (.bl (okP (x = y))) := by
  obtain ⟨p, e1, c1, d1⟩ := plD_py n x h1
  obtain ⟨q, e2, c2, d2⟩ := plD_py n y h2
  have s1 : SeqAt.shaped p = true := by unfold SeqAt.shaped; rw [c1, decide_eq_true (by omega)]; rfl
  have s2 : SeqAt.shaped q = true := by unfold SeqAt.shaped; rw [c2, decide_eq_true (by omega)]; rfl
  unfold fEqD
  rw [e1, e2]
  simp only
  rw [if_pos (show eqOk p q = true from okT ⟨s1, s2⟩)]
  have := eqv_eq n x y h1 h2 p q e1 e2
  by_cases he : x = y
  · rw [this.mpr he, okT he]
  · rw [okF he]
    cases hq : PyData.eqv p q with
    | true => exact absurd (this.mp hq) he
    | false => rfl
theorem vNeD {x y : D} (n : Nat) (h1 : plD n x = true) (h2 : plD n y = true) (hn : n ≤ 64 := by decide) : fNeD x y = some (.bl (!okP (x = y))) := by
  have := vEqD n h1 h2 hn
  unfold fEqD at this
  unfold fNeD
  split at this
  · rename_i p q e1 e2
    split at this
    · rename_i hc
      rw [if_pos hc]
      have h3 : PyData.eqv p q = okP (x = y) := by simpa using this
      rw [h3]
    · cases this
  · cases this
theorem plDs_map {α : Type} {n : Nat} {f : α → D} (l : List α) (h : ∀ a ∈ l, plD n (f a) = true) : plDs n (l.map f) = true := by
  induction l with
  | nil => rfl
  | cons a l ih => rw [List.map_cons, plDs, h a List.mem_cons_self, ih fun b hb => h b (List.mem_cons_of_mem _ hb)]; rfl
theorem plDs_all {n : Nat} {l : List D} (h : ∀ d ∈ l, plD n d = true) : plDs n l = true := by
  have := plDs_map (f := id) l h
  simpa using this
theorem map_inj {α : Type} {f : α → D} (hf : ∀ a b, f a = f b → a = b) : ∀ {l k : List α}, l.map f = k.map f → l = k
  | [], [], _ => rfl
  | [], _ :: _, h => by cases h
  | _ :: _, [], h => by cases h
  | a :: l, b :: k, h => by
    rw [List.map_cons, List.map_cons] at h
    obtain ⟨h1, h2⟩ := List.cons.inj h
    rw [hf a b h1, map_inj hf h2]
theorem int_inj (a b : Int) (h : D.int a = .int b) : a = b := by cases h; rfl
theorem str_inj (a b : Str) (h : D.str a = .str b) : a = b := by cases h; rfl
end DL
end DLsec30
set_option maxRecDepth 100000
noncomputable section DLsec31
/-! DL31: dicts (keys numbers and texts; keys tuples of these): what they hold, how the heap bears it. -/
namespace DL
open PySem PySem.Spec PyProof.Rows L2
def D.key : D → Option Key
  | .int i => some (.inl i)
  | .str x => some (.inr x)
  | _ => none
def tkeys : List D → Option (List Key)
  | [] => some []
  | d :: r => (match d.key, tkeys r with
    | some k, some l => some (k :: l)
    | _, _ => none)
def D.tkey : D → Option (List Key)
  | .tup es => tkeys es
  | _ => none
section
variable {κ : Type} [DecidableEq κ]
def posK : List κ → κ → Option Nat
  | [], _ => none
  | a :: r, k => if a = k then some 0 else (posK r k).map (· + 1)
def lkD (ks : List κ) (ds : List D) (k : κ) : Option D := (posK ks k).bind (ds[·]?)
theorem posK_at : ∀ {ks : List κ} {k : κ} {n : Nat}, posK ks k = some n → ks[n]? = some k
  | [], k, n, h => by cases h
  | a :: r, k, n, h => by
    unfold posK at h
    by_cases e : a = k
    · rw [if_pos e] at h; cases h; simp [e]
    · rw [if_neg e] at h
      obtain ⟨m, hm, rfl⟩ := Option.map_eq_some_iff.mp h
      simpa using posK_at hm
theorem posK_lt {ks : List κ} {k : κ} {n : Nat} (h : posK ks k = some n) : n < ks.length := (List.getElem?_eq_some_iff.mp (posK_at h)).1
theorem posK_none : ∀ {ks : List κ} {k : κ}, posK ks k = none → k ∉ ks
  | [], k, _ => by simp
  | a :: r, k, h => by
    unfold posK at h
    by_cases e : a = k
    · rw [if_pos e] at h; cases h
    · rw [if_neg e] at h
      have := posK_none (Option.map_eq_none_iff.mp h)
      simp [this, Ne.symm e]
theorem posK_mem {ks : List κ} {k : κ} (h : k ∈ ks) : ∃ n, posK ks k = some n := by
  cases e : posK ks k with
  | none => exact absurd h (posK_none e)
  | some n => exact ⟨n, rfl⟩
theorem valV_zip : ∀ (ks : List κ) (vs : List V) (k : κ), valV (ks.zip vs) k = (posK ks k).bind (vs[·]?)
  | [], vs, k => rfl
  | a :: r, [], k => by
    rw [List.zip_nil_right, valV_nil]
    cases posK (a :: r) k <;> simp
  | a :: r, v :: vs, k => by
    rw [List.zip_cons_cons]
    by_cases e : a = k
    · rw [valV_pos (p := (a, v)) e]; simp [posK, e]
    · rw [valV_neg (p := (a, v)) e, valV_zip r vs k]
      simp only [posK, if_neg e]
      cases posK r k <;> simp
theorem map_no {k : κ} {v : V} : ∀ {ks : List κ} {vs : List V}, k ∉ ks → (ks.zip vs).map (fun kv => if kv.1 = k then (kv.1, v) else kv) = ks.zip vs
  | [], vs, _ => rfl
  | a :: r, [], _ => by rw [List.zip_nil_right]; rfl
  | a :: r, w :: vs, h => by
    rw [List.zip_cons_cons, List.map_cons, map_no (fun z => h (List.mem_cons_of_mem _ z))]
    rw [if_neg (fun z => h (by rw [show a = k from z]; exact List.mem_cons_self))]
theorem map_set {k : κ} {v : V} : ∀ {ks : List κ} {vs : List V} {n : Nat}, ks.Nodup → posK ks k = some n → (ks.zip vs).map (fun kv => if kv.1 = k then (kv.1, v) else kv) = ks.zip (vs.set n v)
  | [], vs, n, _, h => by cases h
  | a :: r, [], n, _, h => by simp
  | a :: r, w :: vs, n, nd, h => by
    have nd' := List.nodup_cons.mp nd
    rw [List.zip_cons_cons, List.map_cons]
    unfold posK at h
    by_cases e : a = k
    · rw [if_pos e] at h; cases h
      rw [if_pos (show (a, w).1 = k from e), map_no (by rw [← e]; exact nd'.1)]
      rfl
    · rw [if_neg e] at h
      obtain ⟨m, hm, rfl⟩ := Option.map_eq_some_iff.mp h
      rw [if_neg (show ¬ (a, w).1 = k from e), map_set nd'.2 hm]
      rfl
theorem putK_at {ks : List κ} {vs : List V} {k : κ} {v : V} {n : Nat} (nd : ks.Nodup) (hl : ks.length = vs.length) (h : posK ks k = some n) : putK (ks.zip vs) k v = ks.zip (vs.set n v) := by
  unfold putK
  rw [valV_any, valV_zip, h, if_pos, map_set nd h]
  have : n < vs.length := by rw [← hl]; exact posK_lt h
  simp [this]
theorem putK_end {ks : List κ} {vs : List V} {k : κ} {v : V} (hl : ks.length = vs.length) (h : posK ks k = none) : putK (ks.zip vs) k v = (ks ++ [k]).zip (vs ++ [v]) := by
  unfold putK
  rw [valV_any, valV_zip, h, if_neg (by simp), List.zip_append hl]
  rfl
theorem dropK_at {k : κ} : ∀ {ks : List κ} {vs : List V} {n : Nat}, ks.Nodup → posK ks k = some n → dropK (ks.zip vs) k = (ks.eraseIdx n).zip (vs.eraseIdx n)
  | [], vs, n, _, h => by cases h
  | a :: r, [], n, _, h => by simp [dropK]
  | a :: r, w :: vs, n, nd, h => by
    have nd' := List.nodup_cons.mp nd
    rw [List.zip_cons_cons]
    unfold posK at h
    by_cases e : a = k
    · rw [if_pos e] at h; cases h
      rw [dropK_pos (p := (a, w)) e]
      simp only [List.eraseIdx_cons_zero]
      refine dropK_no fun z => nd'.1 ?_
      obtain ⟨p, hp, e2⟩ := List.mem_map.mp z
      rw [e, ← e2]
      exact (List.of_mem_zip hp).1
    · rw [if_neg e] at h
      obtain ⟨m, hm, rfl⟩ := Option.map_eq_some_iff.mp h
      rw [dropK_neg (p := (a, w)) e, dropK_at nd'.2 hm]
      rfl
/-- a store: where it stands, or at the end -/
def putL (ks : List κ) (ds : List D) (k : κ) (z : D) : List κ × List D := match posK ks k with
  | some n => (ks, ds.set n z)
  | none => (ks ++ [k], ds ++ [z])
end
/-- a kind of dict -/
structure Dk (κ : Type) [DecidableEq κ] where
  d : List κ → List D → D
  h : List (κ × V) → HO
  ky : D → Option κ
  rep : ∀ {K : PySem.W.Frag} {H : Hp} {o : Bool} {ks : List κ} {ds : List D} {v : V} {F : List Addr}, Rep K H o (d ks ds) v F ↔ ∃ a vs G, v = .ref a ∧ Reps K H o ds vs G ∧ (ks.length = ds.length ∧ ks.Nodup) ∧
    ((H a = some (h (ks.zip vs)) ∧ F = a :: G) ∨ (o = false ∧ (∃ ob, H a = some (.frz ob (h (ks.zip vs)))) ∧ F = G))
  mu : ∀ kvs, Mu (h kvs)
  mt : ∀ kvs, Mut (some (h kvs))
  get : ∀ {K : PySem.W.Frag} {H : Hp} {o : Bool} {a : Addr} {kvs : List (κ × V)} {y : D} {u : V} {G : List Addr} {k : κ}, Rd H a (h kvs) → ky y = some k → Rep K H o y u G → DGet H a u (valV kvs k)
  put : ∀ {K : PySem.W.Frag} {H : Hp} {o : Bool} {a : Addr} {kvs : List (κ × V)} {y : D} {u w : V} {G : List Addr} {k : κ}, H a = some (h kvs) → ky y = some k → Rep K H o y u G → kvs.length < sizeLine → DPut H a u w (upd H a (h (putK kvs k w)))
  isD : ∀ {H : Hp} {a : Addr} {kvs : List (κ × V)}, Rd H a (h kvs) → L2.IsD H a
theorem key_rep {K : PySem.W.Frag} {H : Hp} {o : Bool} {y : D} {u : V} {G : List Addr} {k : Key} (e : y.key = some k) (r : Rep K H o y u G) : u = kV k := by
  cases y <;> simp only [D.key, reduceCtorEq] at e <;> cases e <;> exact r.1
theorem tkeys_rep {K : PySem.W.Frag} {H : Hp} {o : Bool} : ∀ {es : List D} {vs : List V} {G : List Addr} {l : List Key}, tkeys es = some l → Reps K H o es vs G → vs = l.map kV
  | [], vs, G, l, e, r => by cases e; exact r.1
  | d :: es, vs, G, l, e, r => by
    obtain ⟨v, ws, G1, G2, rfl, _, r1, r2⟩ := r
    unfold tkeys at e
    cases h1 : d.key with
    | none => rw [h1] at e; cases e
    | some k =>
      cases h2 : tkeys es with
      | none => rw [h1, h2] at e; cases e
      | some l2 =>
        rw [h1, h2] at e
        cases e
        rw [key_rep h1 r1, tkeys_rep h2 r2]
        rfl
theorem tkey_rep {K : PySem.W.Frag} {H : Hp} {o : Bool} {y : D} {u : V} {G : List Addr} {k : List Key} (e : y.tkey = some k) (r : Rep K H o y u G) : ∃ b, u = .ref b ∧ H b = some (.tup (k.map kV)) := by
  cases y with
  | tup es =>
    obtain ⟨b, vs, rfl, hb, rs⟩ := r
    rw [tkeys_rep (show tkeys es = some k from e) rs] at hb
    exact ⟨b, rfl, hb⟩
  | _ => cases e
def dkk : Dk Key where
  d := .dK
  h := .dK
  ky := D.key
  rep := Iff.rfl
  mu := fun _ => trivial
  mt := fun _ => trivial
  get := fun {K H o a kvs y u G k} r e ry => .inl ⟨kvs, k, r, key_rep e ry, rfl⟩
  put := fun {K H o a kvs y u w G k} r e ry hl => .inl ⟨kvs, k, r, key_rep e ry, hl, rfl⟩
  isD := fun r => .inl ⟨_, r⟩
def dkt : Dk (List Key) where
  d := .dT
  h := .dT
  ky := D.tkey
  rep := Iff.rfl
  mu := fun _ => trivial
  mt := fun _ => trivial
  get := fun {K H o a kvs y u G k} r e ry => by
    obtain ⟨b, rfl, hb⟩ := tkey_rep e ry
    exact .inr ⟨kvs, k, b, r, rfl, hb, rfl⟩
  put := fun {K H o a kvs y u w G k} r e ry hl => by
    obtain ⟨b, rfl, hb⟩ := tkey_rep e ry
    exact .inr ⟨kvs, k, b, r, rfl, hb, hl, rfl⟩
  isD := fun r => .inr ⟨_, r⟩
section
variable {κ : Type} [DecidableEq κ] {T : Dk κ} {K : PySem.W.Frag} {H0 H : Hp} {Fs : Nat → List Addr} {kd_ : Kd} {ks : List κ} {ds : List D} {v u : V} {F G : List Addr} {k : κ} {y : D}
theorem RepR.dk (T : Dk κ) (r : RepR K H0 H Fs kd_ (T.d ks ds) v F) : ∃ a vs G, v = .ref a ∧ (ks.length = ds.length ∧ ks.Nodup) ∧ Rd H a (T.h (ks.zip vs)) ∧ RepsR K H0 H Fs kd_ ds vs G := by
  cases kd_ with
  | none =>
    obtain ⟨r, nd, fr⟩ := r
    obtain ⟨a, vs, G, h1, h2, hl, h3⟩ := T.rep.mp r
    rcases h3 with ⟨h3, rfl⟩ | ⟨ho, _⟩
    · exact ⟨a, vs, G, h1, hl, .inl h3, h2, (List.nodup_cons.mp nd).2, fun b hb => fr b (List.mem_cons_of_mem _ hb)⟩
    · cases ho
  | some R =>
    obtain ⟨r, fr⟩ := r
    obtain ⟨a, vs, G, h1, h2, hl, h3⟩ := T.rep.mp r
    rcases h3 with ⟨h3, rfl⟩ | ⟨_, ⟨ob, h3⟩, rfl⟩
    · exact ⟨a, vs, G, h1, hl, .inl h3, h2, fun b hb => fr b (List.mem_cons_of_mem _ hb)⟩
    · exact ⟨a, vs, F, h1, hl, .inr ⟨ob, h3⟩, h2, fr⟩
/-- what was found, as the heap bears it -/
def OvOk (K : PySem.W.Frag) (H0 H : Hp) (Fs : Nat → List Addr) (kd_ : Kd) (o : Option D) (ov : Option V) : Prop := match o with
  | none => ov = none
  | some z => ∃ w G', ov = some w ∧ RepR K H0 H Fs kd_ z w G'
theorem RepsR.newD {ks : List Key} {vs : List V} (r : RepsR K H0 H Fs kd_ ds vs F) (hl : ks.length = ds.length ∧ ks.Nodup) (s0 : Same H0 H) {p : Addr} (hp : H p = none) : RepR K H0 (upd H p (.dK (ks.zip vs))) Fs kd_ (.dK ks ds) (.ref p) (p :: F) := by
  have r' := r.same (same_new (o := .dK (ks.zip vs)) hp)
  have hF : p ∉ F := fun hm => by
    obtain ⟨u, e, _⟩ := Reps.tr ds vs F r.rep p hm
    rw [hp] at e; cases e
  cases kd_ with
  | none =>
    refine ⟨⟨p, vs, F, rfl, r'.1, hl, .inl ⟨upd_same, rfl⟩⟩, List.nodup_cons.mpr ⟨hF, r'.2.1⟩, fun a ha => ?_⟩
    rcases List.mem_cons.mp ha with rfl | ha
    · exact s0.free hp
    · exact r'.2.2 a ha
  | some R =>
    refine ⟨⟨p, vs, F, rfl, r'.1, hl, .inl ⟨upd_same, rfl⟩⟩, fun a ha => ?_⟩
    rcases List.mem_cons.mp ha with rfl | ha
    · exact .inl (s0.free hp)
    · exact r'.2 a ha
theorem lkD_rep (hl : ks.length = ds.length) {vs : List V} (rs : RepsR K H0 H Fs kd_ ds vs G) : OvOk K H0 H Fs kd_ (lkD ks ds k) (valV (ks.zip vs) k) := by
  rw [valV_zip]
  unfold lkD OvOk
  cases e : posK ks k with
  | none => exact rfl
  | some n =>
    have hn : n < ds.length := by rw [← hl]; exact posK_lt e
    obtain ⟨w, G', e1, r1⟩ := rs.get (List.getElem?_eq_getElem hn)
    simp only [Option.bind_some, List.getElem?_eq_getElem hn]
    exact ⟨w, G', e1, r1⟩
theorem get_rep (T : Dk κ) (r : RepR K H0 H Fs kd_ (T.d ks ds) v F) (hk : T.ky y = some k) {o : Bool} (ry : Rep K H o y u G) : ∃ a ov, v = .ref a ∧ L2.IsD H a ∧ DGet H a u ov ∧ OvOk K H0 H Fs kd_ (lkD ks ds k) ov := by
  obtain ⟨a, vs, G1, h1, hl, h3, rs⟩ := r.dk T
  exact ⟨a, _, h1, T.isD h3, T.get h3 hk ry, lkD_rep hl.1 rs⟩
end
/-- d[k]: none is none of ours; some none: it is not there -/
def getD' (x y : D) : Option (Option D) := match x with
  | .dK ks ds => y.key.map (lkD ks ds)
  | .dT ks ds => y.tkey.map (lkD ks ds)
  | _ => none
theorem getD_rep {K : PySem.W.Frag} {H0 H : Hp} {Fs : Nat → List Addr} {kd_ : Kd} {x y : D} {v u : V} {F G : List Addr} {o : Option D} (h : getD' x y = some o) (r : RepR K H0 H Fs kd_ x v F) {ow : Bool} (ry : Rep K H ow y u G) : ∃ a ov, v = .ref a ∧ L2.IsD H a ∧ DGet H a u ov ∧ OvOk K H0 H Fs kd_ o ov := by
  unfold getD' at h
  split at h
  · obtain ⟨k, hk, rfl⟩ := Option.map_eq_some_iff.mp h
    exact get_rep dkk r hk ry
  · obtain ⟨k, hk, rfl⟩ := Option.map_eq_some_iff.mp h
    exact get_rep dkt r hk ry
  · cases h
section
variable {X : Cx} {C : Ct} {ρ ρ1 ρ2 : DEnv} {σ : L2.St} {H H1 H2 : Hp} {Fs Fs1 Fs2 : Nat → List Addr} {a b c e : Expr} {es : List Expr} {sx sb' : SX} {sa sb sc : SE} {t : SA} {tx : SXA} {W : WX} {pos p : Pos} {K : PySem.W.Frag}
/-! ### d[k], d.get -/
def sDGet (sa sb : SE) : SE := fun ρ => match sa ρ, sb ρ with
  | some (x, k), some (y, _) => (match getD' x y with
    | some (some z) => some (z, kd z k)
    | _ => none)
  | _, _ => none
theorem dDGet (hu : X.A.units + 64 < cLine) (ha : PP X a sa) (hb : PP X b sb) (hs : NoSl b := by intro _ _; rfl) : PP X (.Subscript a b pos) (sDGet sa sb) := by
  refine ⟨fun C ρ σ H Fs d k Q E h q => WE.of (pe_dget (by omega) (we X a) (we X b) hs) ?_⟩
  unfold sDGet at h
  split at h
  · rename_i x k1 y k2 h1 h2
    split at h
    · rename_i z h3
      cases h
      refine two ha hb E h1 h2 fun v u H' F G s r1 r2 _ => ?_
      obtain ⟨p, ov, rfl, _, g, w, G', rfl, r3⟩ := getD_rep h3 r1 r2.rep
      obtain ⟨G3, r4⟩ := r3.kd
      exact ⟨p, w, rfl, g, q w H' G3 s r4⟩
    · cases h
  · cases h
def sDGet2 (sa sb sc : SE) : SE := fun ρ => match sa ρ, sb ρ, sc ρ with
  | some (x, k), some (y, _), some (z, k') => (match getD' x y with
    | some (some w) => some (w, kd w k)
    | some none => some (z, kd z k')
    | none => none)
  | _, _, _ => none
theorem dDGet2 {apos cpos : Pos} (hu : X.A.units + 64 < cLine) (ha : PP X a sa) (hb : PP X b sb) (hc : PP X c sc) (m : M2 X a "get" apos b c cpos := by exact ⟨rfl, rfl, rfl, rfl⟩) : PP X (.Call (.Attribute a "get" apos) [b, c] [] cpos) (sDGet2 sa sb sc) := by
  refine ⟨fun C ρ σ H Fs d k Q E h q => WE.of (pe_dget2 (by omega) (we X a) (we X b) (we X c) m) ?_⟩
  unfold sDGet2 at h
  split at h
  · rename_i x k1 y k2 z k3 h1 h2 h3
    have go : ∀ o, getD' x y = some o → (match o with | some w => some (w, kd w k1) | none => some (z, kd z k3)) = some (d, k) → tDGet2 (WE X a) (WE X b) (WE X c) σ H Q := fun o ho hd => by
      refine ha.run C ρ σ H Fs x k1 _ E h1 fun v H1 F s1 r1 => ?_
      -- that it is a dict is seen before the key is reckoned
      have isd : ∃ p, v = .ref p ∧ L2.IsD H1 p := by
        unfold getD' at ho
        split at ho
        · obtain ⟨p, vs, G, e, _, h3, _⟩ := RepR.dk dkk r1; exact ⟨p, e, dkk.isD h3⟩
        · obtain ⟨p, vs, G, e, _, h3, _⟩ := RepR.dk dkt r1; exact ⟨p, e, dkt.isD h3⟩
        · cases ho
      obtain ⟨p, rfl, isd⟩ := isd
      refine ⟨p, rfl, isd, hb.run C ρ σ H1 Fs y k2 _ (E.same s1) h2 fun u H2 G s2 r2 => hc.run C ρ σ H2 Fs z k3 _ ((E.same s1).same s2) h3 fun w H3 G2 s3 r3 => ?_⟩
      obtain ⟨p', ov, e, _, g, hm⟩ := getD_rep ho ((r1.same s2).same s3) (r2.same s3).rep
      cases e
      refine ⟨ov, g, ?_⟩
      have s13 := (s1.trans s2).trans s3
      cases o with
      | none =>
        cases hm
        cases hd
        obtain ⟨G4, r4⟩ := RepR.kd (r3.back (s1.trans s2))
        exact q w H3 G4 s13 r4
      | some z' =>
        obtain ⟨w', G', rfl, r4⟩ := hm
        cases hd
        obtain ⟨G5, r5⟩ := RepR.kd r4
        exact q w' H3 G5 s13 r5
    cases ho : getD' x y with
    | none => simp only [ho] at h; cases h
    | some o =>
      refine go o ho ?_
      cases o <;> simpa only [ho] using h
  · cases h
/-! ### in -/
def fInD (neg : Bool) : D → D → Option D := fun y x => (getD' x y).map fun o => .bl (if neg then !o.isSome else o.isSome)
theorem oInD (hu : X.A.units + 64 < cLine) : OpD X (compareOp .In) (fInD false) := by
  refine ⟨fun y x H Q => ∃ a o, x = .ref a ∧ DGet H a y o ∧ Q (.bl o.isSome) H, fun pins s σ H y x v u Q I ry rx h => ?_, fun y x z h => ?_⟩
  · obtain ⟨a, o, rfl, g, q⟩ := h
    obtain rfl : u = Value.ref a := rx
    exact d_in (by omega) I g ry fun s3 I3 => ⟨.bl o.isSome, H, I3, rfl, q⟩
  · obtain ⟨o, ho, rfl⟩ := Option.map_eq_some_iff.mp h
    refine ⟨rfl, fun H v u F G Q r1 r2 q => ?_⟩
    obtain ⟨p, ov, rfl, _, g, hm⟩ := getD_rep (H0 := H) (Fs := fun _ => G) (kd_ := some [0]) ho ⟨r2, fun a ha => .inr ⟨0, by simp, ha⟩⟩ r1
    have e : ov.isSome = o.isSome := by
      cases o with
      | none => cases hm; rfl
      | some z => obtain ⟨w, G', rfl, _⟩ := hm; rfl
    exact ⟨p, ov, rfl, g, by rw [e]; exact q _ H (Same.refl H) ⟨rfl, rfl⟩⟩
theorem oNotInD (hu : X.A.units + 64 < cLine) : OpD X (compareOp .NotIn) (fInD true) := by
  refine ⟨fun y x H Q => ∃ a o, x = .ref a ∧ DGet H a y o ∧ Q (.bl (!o.isSome)) H, fun pins s σ H y x v u Q I ry rx h => ?_, fun y x z h => ?_⟩
  · obtain ⟨a, o, rfl, g, q⟩ := h
    obtain rfl : u = Value.ref a := rx
    exact d_notIn (by omega) I g ry fun s3 I3 => ⟨.bl (!o.isSome), H, I3, rfl, q⟩
  · obtain ⟨o, ho, rfl⟩ := Option.map_eq_some_iff.mp h
    refine ⟨rfl, fun H v u F G Q r1 r2 q => ?_⟩
    obtain ⟨p, ov, rfl, _, g, hm⟩ := getD_rep (H0 := H) (Fs := fun _ => G) (kd_ := some [0]) ho ⟨r2, fun a ha => .inr ⟨0, by simp, ha⟩⟩ r1
    have e : ov.isSome = o.isSome := by
      cases o with
      | none => cases hm; rfl
      | some z => obtain ⟨w, G', rfl, _⟩ := hm; rfl
    exact ⟨p, ov, rfl, g, by rw [e]; exact q _ H (Same.refl H) ⟨rfl, rfl⟩⟩
/-! ### {} -/
theorem dDNew (T : Bool) : PP X (.Dict [] [] pos) (sC (if T then .dT [] [] else .dK [] [])) := by
  cases T with
  | false =>
    refine ⟨fun C ρ σ H Fs d k Q E h q => WE.of pe_dnewK fun p hp => ?_⟩
    cases h
    exact q (.ref p) _ [p] (same_new hp) ⟨⟨p, [], [], rfl, ⟨rfl, rfl⟩, ⟨rfl, List.nodup_nil⟩, .inl ⟨upd_same, rfl⟩⟩, by simp, fun a ha => by rw [List.mem_singleton.mp ha]; exact hp⟩
  | true =>
    refine ⟨fun C ρ σ H Fs d k Q E h q => WE.of pe_dnewT fun p hp => ?_⟩
    cases h
    exact q (.ref p) _ [p] (same_new hp) ⟨⟨p, [], [], rfl, ⟨rfl, rfl⟩, ⟨rfl, List.nodup_nil⟩, .inl ⟨upd_same, rfl⟩⟩, by simp, fun a ha => by rw [List.mem_singleton.mp ha]; exact hp⟩
/-! ### len -/
def gLenD : List D → Option D
  | [.dK ks ds] => some (.int ds.length)
  | _ => none
theorem oLenD : CaD X (.builtin "len") gLenD := by
  refine ⟨fun xs H Q => ∃ a kvs, xs = [V.ref a] ∧ Rd H a (.dK kvs) ∧ Q (.int kvs.length) H, fun pins s σ H xs us Q I r h => ?_, fun ds z h => ?_⟩
  · obtain ⟨a, kvs, rfl, ha, q⟩ := h
    obtain ⟨u, rfl, ru⟩ := vals1 r
    cases ru
    exact d_len I ha fun t s' I' => ⟨.int kvs.length, H, I', ⟨t, rfl⟩, q⟩
  · unfold gLenD at h
    split at h
    · cases h
      refine ⟨rfl, fun H vs F Q r q => ?_⟩
      rename_i ks ds
      obtain ⟨v, rfl, r1⟩ := reps1 r
      obtain ⟨a, ws, G, e, hl, h3, rs⟩ := RepR.dk dkk (H0 := H) (Fs := fun _ => F) (kd_ := some [0]) ⟨r1, fun a ha => .inr ⟨0, by simp, ha⟩⟩
      refine ⟨a, _, by rw [e], h3, ?_⟩
      have : (ks.zip ws).length = ds.length := by rw [List.length_zip, rs.len, hl.1]; simp
      rw [this]
      exact q _ H (Same.refl H) ⟨rfl, rfl⟩
    · cases h
/-! ### dict(d) -/
def sDictD (s : SE) : SE := fun ρ => match s ρ with
  | some (.dK ks ds, k) => some (.dK ks ds, kds ds k)
  | _ => none
theorem dDictD (ha : PP X a sa) (hm : X.mg "dict" = none) (hg : Gl X "dict" := by rfl) (hv : bootBuiltins "dict" = some (.type "dict") := by decide +kernel) (he : starEach [a] X.env = (false, eval a X.env) :: starEach [] X.env := by rfl) (hpl : (backTo pos (starEach [] X.env)).any (·.1) = false := by rfl) :
    PP X (.Call (.Name "dict" p) [a] [] pos) (sDictD sa) := by
  refine ⟨fun C ρ σ H Fs d k Q E h q => WE.of (pe_callTy call_dictD hg hm hv (pa_cons (we X a) pa_nil he) (by decide) (by decide) he hpl) ?_⟩
  unfold sDictD at h
  split at h
  · rename_i ks ds k1 h1
    cases h
    refine ha.run C ρ σ H Fs _ k1 _ E h1 fun v H' F s1 r => ?_
    obtain ⟨p, vs, G, rfl, hl, h3, rs⟩ := RepR.dk dkk r
    obtain ⟨G2, r3⟩ := rs.kds
    refine ⟨p, ks.zip vs, rfl, h3, fun l hn => ?_⟩
    exact q (.ref l) _ (l :: G2) (s1.trans (same_new hn)) (r3.newD hl s1 hn)
  · cases h
end
end DL
end DLsec31
set_option maxRecDepth 100000
noncomputable section DLsec32
/-! DL32: dicts that are written: d[k] = y, d.pop(k). -/
namespace DL
open PySem PySem.Spec PyProof.Rows L2
section
variable {κ : Type} [DecidableEq κ] {X : Cx} {C : Ct} {ρ ρ1 ρ2 : DEnv} {σ : L2.St} {H H1 H2 : Hp} {Fs Fs1 Fs2 : Nat → List Addr} {a b e : Expr} {es : List Expr} {sx sb : SX} {s : SE} {t : SA} {tx : SXA} {W : WX} {pos p : Pos} {K : PySem.W.Frag}
/-- a slot's own dict, and how it is written -/
theorem EnvOk.dk (T : Dk κ) (E : EnvOk K C H ρ σ Fs) {i : Nat} {ks : List κ} {ds : List D} {m : Md} (hh : Has ρ i (T.d ks ds) m) (hm : m.o = true) :
    ∃ (a : Addr) (vs : List V) (G : List Addr), σ[i]? = some (some (.ref a)) ∧ H a = some (T.h (ks.zip vs)) ∧ (ks.length = ds.length ∧ ks.Nodup) ∧ Reps K H true ds vs G ∧ Fs i = a :: G ∧ a ∉ G ∧ G.Nodup ∧
      ∀ (ks' : List κ) (ds' : List D) (vs' : List V) (G' : List Addr), Reps K H true ds' vs' G' → (ks'.length = ds'.length ∧ ks'.Nodup) → G'.Nodup → (∀ x ∈ G', x ∈ G ∨ (C.P x = none ∧ ∀ j e n, Has ρ j e n → x ∉ Fs j)) →
        EnvOk K C (upd H a (T.h (ks'.zip vs'))) (ρ.set i (some (T.d ks' ds', m))) σ (fun j => if j = i then a :: G' else Fs j) := by
  obtain ⟨v, hv, r⟩ := E.rep i _ m hh
  rw [hm] at r
  obtain ⟨a, vs, G, rfl, hr, hkl, hal⟩ := T.rep.mp r
  have hal : H a = some (T.h (ks.zip vs)) ∧ Fs i = a :: G := by
    rcases hal with h | ⟨ho, _⟩
    · exact h
    · cases ho
  obtain ⟨hl, eF⟩ := hal
  obtain ⟨nd, _⟩ := E.nd i _ m hh hm
  rw [eF] at nd
  have nd' := List.nodup_cons.mp nd
  refine ⟨a, vs, G, hv, hl, hkl, hr, eF, nd'.1, nd'.2, fun ks' ds' vs' G' hr' hk' n' h => ?_⟩
  have haG : a ∉ G' := fun z => by
    rcases h a z with q | q
    · exact nd'.1 q
    · exact q.2 i _ m hh (by rw [eF]; exact List.mem_cons_self)
  refine E.wr hh hm (Kp.upd hl (T.mu _)) (fun b o e hb => ?_) (fun w hw => ?_) (List.nodup_cons.mpr ⟨haG, n'⟩) fun x hx => ?_
  · rw [upd_ne]
    · exact e
    · rintro rfl
      exact hb (by rw [eF]; exact List.mem_cons_self)
  · rw [hv] at hw
    cases hw
    refine T.rep.mpr ⟨a, vs', G', rfl, ?_, hk', .inl ⟨upd_same, rfl⟩⟩
    exact Reps.kp (Kp.upd hl (T.mu _)) _ _ _ hr' fun x hx => upd_ne (fun z => haG (z ▸ hx))
  · rcases List.mem_cons.mp hx with rfl | hx
    · exact .inl (by rw [eF]; exact List.mem_cons_self)
    · rcases h x hx with q | q
      · exact .inl (by rw [eF]; exact List.mem_cons_of_mem _ q)
      · exact .inr ⟨q.1, fun j e n _ hj => q.2 j e n hj⟩
/-- the object of a name, a dict then -/
theorem var_dk (T : Dk κ) (E : EnvOk K C H ρ σ Fs) {i : Nat} {ks : List κ} {ds : List D} {m : Md} (hh : Has ρ i (T.d ks ds) m) : ∃ (a : Addr), σ[i]? = some (some (.ref a)) ∧ L2.IsD H a := by
  obtain ⟨v, hv, r⟩ := E.rep i _ m hh
  obtain ⟨a, vs, G, rfl, hr, hkl, hal⟩ := T.rep.mp r
  refine ⟨a, hv, ?_⟩
  rcases hal with ⟨h, _⟩ | ⟨_, ⟨ob, h⟩, _⟩
  · exact T.isD (.inl h)
  · exact T.isD (.inr ⟨ob, h⟩)
/-- y laid under k in the own dict of slot i -/
theorem put_go (T : Dk κ) (E : EnvOk K C H ρ σ Fs) {i : Nat} {ks : List κ} {ds : List D} {m : Md} (hh : Has ρ i (T.d ks ds) m) (hm : m.o = true) {y z : D} {k : κ} {u w : V} {G1 G2 : List Addr} (hk : T.ky z = some k) (rk : Rep K H false z w G2) (ry : RepV K C ρ Fs H none y u G1) (hl : ks.length < sizeLine) :
    ∃ a H', σ[i]? = some (some (.ref a)) ∧ DPut H a w u H' ∧ ∃ Fs', EnvOk K C H' (ρ.set i (some (T.d (putL ks ds k y).1 (putL ks ds k y).2, m))) σ Fs' := by
  obtain ⟨a, vs, G, hp, hl0, hkl, hr, eF, hap, nd, wr⟩ := E.dk T hh hm
  have hlen := Reps.len hr
  have hlv : ks.length = vs.length := by rw [hlen]; exact hkl.1
  have hz : (ks.zip vs).length < sizeLine := by rw [List.length_zip]; omega
  have hdis : ∀ x ∈ G, x ∉ G1 := fun x hx hx1 => (ry.2.2 x hx1).2 i _ m hh (by rw [eF]; exact List.mem_cons_of_mem _ hx)
  refine ⟨a, _, hp, T.put hl0 hk rk hz, ?_⟩
  unfold putL
  cases e : posK ks k with
  | some n =>
    rw [putK_at hkl.2 hlv e]
    have hn : n < ds.length := by rw [← hkl.1]; exact posK_lt e
    obtain ⟨A, B, D', e1, e2⟩ := Reps.set ry.1 hr hn
    have hG : ∀ x ∈ A ++ D', x ∈ G := fun x hx => by
      rw [e1]
      rcases List.mem_append.mp hx with q | q
      · exact List.mem_append_left _ (List.mem_append_left _ q)
      · exact List.mem_append_right _ q
    rw [e1] at nd
    obtain ⟨ndAB, ndD, d1⟩ := List.nodup_append.mp nd
    obtain ⟨ndA, ndB, d2⟩ := List.nodup_append.mp ndAB
    exact ⟨_, wr ks (ds.set n y) (vs.set n u) (A ++ G1 ++ D') e2 ⟨by simpa using hkl.1, hkl.2⟩ (List.nodup_append.mpr ⟨List.nodup_append.mpr ⟨ndA, ry.2.1, fun x hx z hz e => hdis x (hG x (List.mem_append_left _ hx)) (e ▸ hz)⟩, ndD, fun x hx z hz e => by
      subst e
      rcases List.mem_append.mp hx with q | q
      · exact d1 x (List.mem_append_left _ q) x hz rfl
      · exact hdis x (hG x (List.mem_append_right _ hz)) q⟩) fun x hx => by
      rcases List.mem_append.mp hx with q | q
      · rcases List.mem_append.mp q with q | q
        · exact .inl (hG x (List.mem_append_left _ q))
        · exact .inr ⟨(ry.2.2 x q).1, (ry.2.2 x q).2⟩
      · exact .inl (hG x (List.mem_append_right _ q))⟩
  | none =>
    rw [putK_end hlv e]
    have nk : (ks ++ [k]).Nodup := List.nodup_append.mpr ⟨hkl.2, by simp, fun x hx z hz e2 => by
      rw [List.mem_singleton.mp hz] at e2
      exact posK_none e (e2 ▸ hx)⟩
    exact ⟨_, wr (ks ++ [k]) (ds ++ [y]) (vs ++ [u]) (G ++ G1) (Reps.app hr (Reps.one ry.1)) ⟨by simp [hkl.1], nk⟩ (List.nodup_append.mpr ⟨nd, ry.2.1, fun x hx z hz e => hdis x hx (e ▸ hz)⟩) fun x hx => by
      rcases List.mem_append.mp hx with q | q
      · exact .inl q
      · exact .inr ⟨(ry.2.2 x q).1, (ry.2.2 x q).2⟩⟩
/-- d with y under z -/
def putD (d z y : D) : Option D := match d with
  | .dK ks ds => if okP (ks.length < sizeLine) = true then z.key.map fun k => .dK (putL ks ds k y).1 (putL ks ds k y).2 else none
  | .dT ks ds => if okP (ks.length < sizeLine) = true then z.tkey.map fun k => .dT (putL ks ds k y).1 (putL ks ds k y).2 else none
  | _ => none
theorem putD_go (E : EnvOk K C H ρ σ Fs) {i : Nat} {d d' : D} {m : Md} (hh : Has ρ i d m) (hm : m.o = true) {y z : D} {u w : V} {G1 G2 : List Addr} (hp : putD d z y = some d') (rk : Rep K H false z w G2) (ry : RepV K C ρ Fs H none y u G1) :
    ∃ a H', σ[i]? = some (some (.ref a)) ∧ DPut H a w u H' ∧ ∃ Fs', EnvOk K C H' (ρ.set i (some (d', m))) σ Fs' := by
  unfold putD at hp
  split at hp
  · split at hp
    · rename_i hl
      obtain ⟨k, hk, rfl⟩ := Option.map_eq_some_iff.mp hp
      exact put_go dkk E hh hm hk rk ry (okP_iff.mp hl)
    · cases hp
  · split at hp
    · rename_i hl
      obtain ⟨k, hk, rfl⟩ := Option.map_eq_some_iff.mp hp
      exact put_go dkt E hh hm hk rk ry (okP_iff.mp hl)
    · cases hp
  · cases hp
/-! ### x[k] = y -/
def sDPut (i : Nat) (ix : SE) (s : SX) : SS := fun ρ => match s ρ with
  | .ok y ky ρ1 => (match ix ρ1, ρ1[i]? with
    | some (z, _), some (some (d, m)) => if okP (m.o = true ∧ (y.imm = true ∨ ky = none)) = true then (match putD d z y with
      | some d' => .nx (ρ1.set i (some (d', m)))
      | none => .bad) else .bad
    | _, _ => .bad)
  | .ex z ρ1 => .ex z ρ1
  | .bad => .bad
theorem dDPut (hu : X.A.units + 64 < cLine) (i : Nat) {x : Str} {ix : Expr} {six : SE} {npos tpos : Pos} (hi : PP X ix six) (he : PX X e sx) (hN : X.N[i]? = some x := by rfl) (hv : Vis X.env.scope x := by first | exact Or.inl rfl | exact Or.inr (Or.inl rfl) | exact Or.inr (Or.inr rfl)) (hd : (x == ("__debug__" : Str)) = false := by decide)
    (hcd : (x == ("__classdict__" : Str)) = false := by decide)
    (hs : swapsWith e (some (.Subscript (.Name x npos) ix tpos)) pos.line X.env = pure false := by rfl) : PSd X (.Assign [.Subscript (.Name x npos) ix tpos] e pos) (sDPut i six sx) := by
  refine ⟨fun C W Z ρ σ H Fs tk E h => WS.of (ps_dput (by omega) (pe_var hN hv hd hcd) (we X ix) (we X e) hs) (he.run C W ρ σ H Fs _ tk E ?_)⟩
  unfold sDPut at h
  cases h2 : sx ρ with
  | bad => rw [h2] at h; exact h.elim
  | ex z ρ1 => rw [h2] at h; exact fun H' Fs' cls dd E' xr => h H' σ Fs' cls dd E' xr
  | ok y ky ρ1 =>
    rw [h2] at h
    intro u H1 F Fs1 E1 sh ru
    cases h3 : six ρ1 with
    | none => simp only [h3] at h; exact h.elim
    | some q =>
      obtain ⟨z, kz⟩ := q
      cases h4 : ρ1[i]? with
      | none => simp only [h3, h4] at h; exact h.elim
      | some q0 =>
        cases q0 with
        | none => simp only [h3, h4] at h; exact h.elim
        | some q =>
          obtain ⟨d1, m⟩ := q
          simp only [h3, h4] at h
          by_cases hk : okP (m.o = true ∧ (y.imm = true ∨ ky = none)) = true
          · simp only [hk, if_true] at h
            obtain ⟨hm, hy⟩ := okP_iff.mp hk
            cases h5 : putD d1 z y with
            | none => simp only [h5] at h; exact h.elim
            | some d' =>
              simp only [h5] at h
              obtain ⟨G1, r1⟩ := ru.norm hy
              obtain ⟨v0, hv0, _⟩ := E1.rep i d1 m h4
              refine ⟨v0, hv0, hi.run C ρ1 σ H1 Fs1 _ _ _ E1 h3 fun w H2 F2 s2 r2 => ?_⟩
              have E2 := E1.same s2
              obtain ⟨a, H', ha, pu, Fs', E3⟩ := putD_go E2 h4 hm h5 r2.rep ⟨r1.1.same s2, r1.2⟩
              rw [ha] at hv0
              cases hv0
              exact ⟨a, H', rfl, pu, h H' σ Fs' E3⟩
          · simp only [hk] at h
            exact h.elim
/-! ### x.pop(k) -/
def dropD (d z : D) : Option (D × D) := match d with
  | .dK ks ds => (match z.key with
    | some k => (match posK ks k with
      | some n => (ds[n]?).map fun y => (y, .dK (ks.eraseIdx n) (ds.eraseIdx n))
      | none => none)
    | none => none)
  | _ => none
theorem Reps.erase {o : Bool} : ∀ {n : Nat} {ds : List D} {vs : List V} {F : List Addr} {d : D}, Reps K H o ds vs F → ds[n]? = some d → ∃ A B D' w, F = A ++ B ++ D' ∧ vs[n]? = some w ∧ Rep K H o d w B ∧ Reps K H o (ds.eraseIdx n) (vs.eraseIdx n) (A ++ D')
  | n, [], _, _, d, _, h => by cases h
  | 0, d :: ds, vs, F, d', r, h => by
    cases h
    obtain ⟨v, ws, G1, G2, rfl, rfl, h3, h4⟩ := r
    exact ⟨[], G1, G2, v, by simp, rfl, h3, h4⟩
  | n + 1, d :: ds, vs, F, d', r, h => by
    obtain ⟨v, ws, G1, G2, rfl, rfl, h3, h4⟩ := r
    obtain ⟨A, B, D', w, e1, e2, e3, e4⟩ := Reps.erase (n := n) h4 (by simpa using h)
    exact ⟨G1 ++ A, B, D', w, by rw [e1]; simp [List.append_assoc], by simpa using e2, e3, v, ws.eraseIdx n, G1, A ++ D', rfl, by simp [List.append_assoc], h3, e4⟩
def sDPop (i : Nat) (ix : SE) : SX := fun ρ => match ix ρ, ρ[i]? with
  | some (z, _), some (some (d, m)) => if okP (m.o = true) = true then (match dropD d z with
    | some (y, d') => .ok y none (ρ.set i (some (d', m)))
    | none => .bad) else .bad
  | _, _ => .bad
theorem xDPop (i : Nat) {x : Str} {ix : Expr} {six : SE} {apos cpos npos : Pos} (hi : PP X ix six) (hN : X.N[i]? = some x := by rfl) (hv : Vis X.env.scope x := by first | exact Or.inl rfl | exact Or.inr (Or.inl rfl) | exact Or.inr (Or.inr rfl)) (hd : (x == ("__debug__" : Str)) = false := by decide)
    (hcd : (x == ("__classdict__" : Str)) = false := by decide) (hm1 : M1 X (.Name x npos) "pop" apos ix cpos := by exact ⟨rfl, rfl, rfl, rfl⟩) :
    PX X (.Call (.Attribute (.Name x npos) "pop" apos) [ix] [] cpos) (sDPop i six) := by
  refine ⟨fun C W ρ σ H Fs Q tk E h => WE.of (pe_dpop1 (pe_var hN hv hd hcd) (we X ix) hm1) ?_⟩
  unfold sDPop at h
  cases h3 : six ρ with
  | none => simp only [h3] at h
  | some q =>
    obtain ⟨z, kz⟩ := q
    cases h4 : ρ[i]? with
    | none => simp only [h3, h4] at h
    | some q0 =>
      cases q0 with
      | none => simp only [h3, h4] at h
      | some q =>
        obtain ⟨d1, m⟩ := q
        simp only [h3, h4] at h
        by_cases hk : okP (m.o = true) = true
        · simp only [hk, if_true] at h
          have hm := okP_iff.mp hk
          cases h5 : dropD d1 z with
          | none => simp only [h5] at h
          | some q =>
            obtain ⟨y, d'⟩ := q
            simp only [h5] at h
            unfold dropD at h5
            split at h5
            · rename_i ks ds
              split at h5
              · rename_i k hzk
                split at h5
                · rename_i n hn
                  obtain ⟨y', hy, e⟩ := Option.map_eq_some_iff.mp h5
                  cases e
                  obtain ⟨p, hp, isd⟩ := var_dk dkk E h4
                  refine ⟨.ref p, hp, p, rfl, isd, hi.run C ρ σ H Fs _ _ _ E h3 fun w H2 F2 s2 r2 => ?_⟩
                  have E2 := E.same s2
                  obtain ⟨p', vs, G, hp', hl0, hkl, hr, eF, hap, nd, wr⟩ := E2.dk dkk h4 hm
                  rw [hp] at hp'
                  cases hp'
                  obtain ⟨A, B, D', u, e1, e2, e3, e4⟩ := Reps.erase hr hy
                  have hval : valV (ks.zip vs) k = some u := by rw [valV_zip, hn]; exact e2
                  have hlv : ks.length = vs.length := by rw [Reps.len hr]; exact hkl.1
                  refine ⟨_, k, u, hl0, key_rep hzk r2.rep, hval, ?_⟩
                  rw [dropK_at hkl.2 hn]
                  rw [e1] at nd
                  obtain ⟨ndAB, ndD, d1⟩ := List.nodup_append.mp nd
                  obtain ⟨ndA, ndB, d2⟩ := List.nodup_append.mp ndAB
                  have hlen' : (ks.eraseIdx n).length = (ds.eraseIdx n).length := by
                    rw [List.length_eraseIdx, List.length_eraseIdx, hkl.1]
                  have E3 := wr (ks.eraseIdx n) (ds.eraseIdx n) (vs.eraseIdx n) (A ++ D') e4 ⟨hlen', hkl.2.sublist (List.eraseIdx_sublist ks n)⟩ (List.nodup_append.mpr ⟨ndA, ndD, fun x hx z hz => d1 x (List.mem_append_left _ hx) z hz⟩) fun x hx => .inl (by
                    rw [e1]
                    rcases List.mem_append.mp hx with q | q
                    · exact List.mem_append_left _ (List.mem_append_left _ q)
                    · exact List.mem_append_right _ q)
                  have haB : p ∉ B := fun z => hap (by rw [e1]; exact List.mem_append_left _ (List.mem_append_right _ z))
                  refine h u _ B _ E3 (Shr.set h4 hm) ⟨Rep.kp (Kp.upd hl0 (dkk.mu _)) _ _ _ e3 fun x hx => upd_ne (fun z => haB (z ▸ hx)), ndB, fun x hx => ⟨?_, fun j e n' hj hmm => ?_⟩⟩
                  · exact (E2.nd i _ m h4 hm).2 x (by rw [eF, e1]; exact List.mem_cons_of_mem _ (List.mem_append_left _ (List.mem_append_right _ hx)))
                  · by_cases hji : j = i
                    · subst hji
                      simp only [if_true] at hmm
                      rcases List.mem_cons.mp hmm with rfl | hmm
                      · exact haB hx
                      · rcases List.mem_append.mp hmm with q | q
                        · exact d2 x q x hx rfl
                        · exact d1 x (List.mem_append_right _ hx) x q rfl
                    · simp only [hji, if_false] at hmm
                      have hj' : Has ρ j e n' := by
                        have hj : (ρ.set i (some (D.dK (ks.eraseIdx n) (ds.eraseIdx n), m)))[j]? = some (some (e, n')) := hj
                        rw [List.getElem?_set_ne (Ne.symm hji)] at hj
                        exact hj
                      exact E2.dis i j _ m e n' (Ne.symm hji) h4 hm hj' x (by rw [eF, e1]; exact List.mem_cons_of_mem _ (List.mem_append_left _ (List.mem_append_right _ hx))) hmm
                · cases h5
              · cases h5
            · cases h5
        · simp only [hk] at h
          exact h.elim
end
end DL
end DLsec32
set_option maxRecDepth 100000
noncomputable section DLsec33
/-! DL33: sorted texts, a dict's sorted keys; dicts in plain functions. -/
namespace DL
open PySem PySem.Spec PyProof.Rows L2
/-! ### sorting, by any order -/
section
variable {α : Type} (le : α → α → Bool)
def insL (a : α) : List α → List α
  | [] => [a]
  | b :: l => if le a b = true then a :: b :: l else b :: insL a l
def sortL : List α → List α
  | [] => []
  | a :: l => insL le a (sortL l)
structure TotL : Prop where
  total : ∀ a b, le a b = true ∨ le b a = true
  trans : ∀ a b c, le a b = true → le b c = true → le a c = true
  anti : ∀ a b, le a b = true → le b a = true → a = b
variable {le}
theorem insL_perm (a : α) : ∀ l : List α, (insL le a l).Perm (a :: l)
  | [] => .refl _
  | b :: l => by
    unfold insL
    split
    · exact .refl _
    · exact ((insL_perm a l).cons b).trans (.swap a b l)
theorem insL_mem {a x : α} {l : List α} : x ∈ insL le a l ↔ x = a ∨ x ∈ l := by rw [(insL_perm a l).mem_iff, List.mem_cons]
theorem insL_sorted (T : TotL le) (a : α) : ∀ l : List α, l.Pairwise (fun a b => le a b = true) → (insL le a l).Pairwise (fun a b => le a b = true)
  | [], _ => List.pairwise_singleton _ _
  | b :: l, h => by
    unfold insL
    have h1 := List.pairwise_cons.mp h
    split
    · rename_i hab
      exact List.pairwise_cons.mpr ⟨fun x hx => by
        rcases List.mem_cons.mp hx with rfl | hx
        · exact hab
        · exact T.trans _ _ _ hab (h1.1 x hx), h⟩
    · rename_i hab
      exact List.pairwise_cons.mpr ⟨fun x hx => by
        rcases insL_mem.mp hx with rfl | hx
        · exact (T.total x b).resolve_left hab
        · exact h1.1 x hx, insL_sorted T a l h1.2⟩
theorem sortL_perm : ∀ l : List α, (sortL le l).Perm l
  | [] => .refl _
  | a :: l => (insL_perm a _).trans ((sortL_perm l).cons a)
theorem sortL_sorted (T : TotL le) : ∀ l : List α, (sortL le l).Pairwise (fun a b => le a b = true)
  | [] => .nil
  | a :: l => insL_sorted T a _ (sortL_sorted T l)
theorem sortL_one (T : TotL le) : ∀ {l k : List α}, l.Perm k → l.Pairwise (fun a b => le a b = true) → k.Pairwise (fun a b => le a b = true) → l = k
  | [], k, p, _, _ => p.nil_eq
  | a :: l, [], p, _, _ => absurd p.length_eq (by simp)
  | a :: l, b :: k, p, h1, h2 => by
    have q1 := List.pairwise_cons.mp h1
    have q2 := List.pairwise_cons.mp h2
    have e : a = b := by
      have m1 : a ∈ b :: k := p.mem_iff.mp List.mem_cons_self
      have m2 : b ∈ a :: l := p.mem_iff.mpr List.mem_cons_self
      rcases List.mem_cons.mp m1 with m1 | m1
      · exact m1
      · rcases List.mem_cons.mp m2 with m2 | m2
        · exact m2.symm
        · exact T.anti _ _ (q1.1 b m2) (q2.1 a m1)
    subst e
    rw [sortL_one T (List.Perm.cons_inv p) q1.2 q2.2]
end
/-! ### texts -/
def leT (x y : Str) : Bool := !ltCps y.cps.toList x.cps.toList
theorem leT_iff {x y : Str} : leT x y = true ↔ x.cps.toList ≤ y.cps.toList := by
  unfold leT
  rw [PyProof.Rows.ltCps_eq]
  simp
theorem totT : TotL leT where
  total := fun a b => by rw [leT_iff, leT_iff]; exact List.le_total _ _
  trans := fun a b c h1 h2 => by rw [leT_iff] at *; exact List.le_trans h1 h2
  anti := fun a b h1 h2 => by
    rw [leT_iff] at *
    have := List.le_antisymm h1 h2
    cases a; cases b
    simp only at this
    rw [Array.toList_inj.mp this]
theorem rising_pw : ∀ {l : List Str} {p : Str}, risingS p l = true → (p :: l).Pairwise (fun a b => leT a b = true)
  | [], p, _ => List.pairwise_singleton _ _
  | x :: r, p, h => by
    have h' : (leT p x && risingS x r) = true := h
    obtain ⟨h1, h2⟩ := Bool.and_eq_true_iff.mp h'
    have ih := rising_pw h2
    refine List.pairwise_cons.mpr ⟨fun y hy => ?_, ih⟩
    rcases List.mem_cons.mp hy with rfl | hy
    · exact h1
    · exact totT.trans _ _ _ h1 ((List.pairwise_cons.mp ih).1 y hy)
theorem sorted_pw {l : List Str} (h : sortedS l = true) : l.Pairwise (fun a b => leT a b = true) := by
  cases l with
  | nil => exact .nil
  | cons x r => exact rising_pw h
abbrev sortT : List Str → List Str := sortL leT
theorem sortT_one {l k : List Str} (p : l.Perm k) (h : sortedS l = true) : l = sortT k := sortL_one totT (p.trans (sortL_perm k).symm) (sorted_pw h) (sortL_sorted totT k)
theorem reps_strs1 {K : PySem.W.Frag} {H : Hp} {o : Bool} : ∀ xs : List Str, Reps K H o (xs.map D.str) (xs.map V.str) []
  | [] => ⟨rfl, rfl⟩
  | x :: xs => ⟨.str x, xs.map V.str, [], [], rfl, rfl, ⟨rfl, rfl⟩, reps_strs1 xs⟩
section
variable {X : Cx} {C : Ct} {ρ ρ1 ρ2 : DEnv} {σ : L2.St} {H H1 H2 : Hp} {Fs Fs1 Fs2 : Nat → List Addr} {a b c e : Expr} {es : List Expr} {sx sb' : SX} {s sa sb sc : SE} {t : SA} {tx : SXA} {W : WX} {pos p : Pos} {K : PySem.W.Frag}
def sortTD : D → Option D
  | .lst ds => (match strsD ds with
    | some xs => if okP (xs.length < 64) = true then some (.lst ((sortT xs).map .str)) else none
    | none => none)
  | _ => none
def s1 (f : D → Option D) (s : SE) : SE := fun ρ => match s ρ with
  | some (d, _) => (match f d with
    | some z => some (z, none)
    | none => none)
  | none => none
theorem s1_some {f : D → Option D} {d : D} {k : Kd} (h : s1 f s ρ = some (d, k)) : ∃ x kx, s ρ = some (x, kx) ∧ f x = some d ∧ k = none := by
  unfold s1 at h
  cases h1 : s ρ with
  | none => rw [h1] at h; cases h
  | some q =>
    obtain ⟨x, kx⟩ := q
    rw [h1] at h
    cases h2 : f x with
    | none => simp only [h2] at h; cases h
    | some z => simp only [h2] at h; cases h; exact ⟨x, kx, rfl, h2, rfl⟩
theorem dSortT (hm : X.mg "sorted" = none) (h : PP X e s) (hg : Gl X "sorted" := by rfl) (he : starEach [e] X.env = (false, eval e X.env) :: starEach [] X.env := by rfl) (hpl : (backTo pos (starEach [] X.env)).any (·.1) = false := by rfl) : PP X (.Call (.Name "sorted" p) [e] [] pos) (s1 sortTD s) := by
  refine ⟨fun C ρ σ H Fs d k Q E hs q => ?_⟩
  obtain ⟨x, kx, h1, h2, rfl⟩ := s1_some hs
  have ha : PPA X [e] (sACons s sANil) := dACons h dANil (hs := he)
  refine WE.of (pe_callB cr_sortedS hg hm PyProof.Rows.boot_sorted (wa X _) (by decide) (by decide) he hpl) ?_
  refine ha.run C ρ σ H Fs [(x, kx)] _ E (by unfold sACons sANil; rw [h1]) fun vs H1 Gs s1 r => ?_
  unfold sortTD at h2
  split at h2
  · rename_i ds
    split at h2
    · rename_i xs hb
      split at h2
      · rename_i hl64
        cases h2
        obtain ⟨v, rfl, a, ws, G, rfl, r2, hl, _⟩ := reps1 r.all.rep
        refine ⟨a, xs, rfl, SqL.of (by rw [← strsD_rep hb r2]; exact hl), okP_iff.mp hl64, fun ys q0 hp hsrt hq => ?_⟩
        rw [sortT_one hp hsrt]
        have r0 : RepsR X.K H H1 Fs none ((sortT xs).map .str) ((sortT xs).map V.str) [] := ⟨reps_strs1 _, List.nodup_nil, fun a ha => by cases ha⟩
        exact q _ _ _ (s1.trans (same_new hq)) (r0.newL s1 hq)
      · cases h2
    · cases h2
  · cases h2
def strKeys : List Key → Option (List Str)
  | [] => some []
  | .inr x :: r => (strKeys r).map (x :: ·)
  | _ :: _ => none
def intKeys : List Key → Option (List Int)
  | [] => some []
  | .inl x :: r => (intKeys r).map (x :: ·)
  | _ :: _ => none
theorem strKeys_map : ∀ {ks : List Key} {xs : List Str}, strKeys ks = some xs → ks = xs.map Sum.inr
  | [], xs, h => by cases h; rfl
  | .inr x :: r, xs, h => by
    obtain ⟨ys, hy, rfl⟩ := Option.map_eq_some_iff.mp (show (strKeys r).map (x :: ·) = some xs from h)
    rw [strKeys_map hy]; rfl
  | .inl _ :: _, xs, h => by cases h
theorem intKeys_map : ∀ {ks : List Key} {xs : List Int}, intKeys ks = some xs → ks = xs.map Sum.inl
  | [], xs, h => by cases h; rfl
  | .inl x :: r, xs, h => by
    obtain ⟨ys, hy, rfl⟩ := Option.map_eq_some_iff.mp (show (intKeys r).map (x :: ·) = some xs from h)
    rw [intKeys_map hy]; rfl
  | .inr _ :: _, xs, h => by cases h
theorem strKeys_of (xs : List Str) : strKeys (xs.map Sum.inr) = some xs := by
  induction xs with
  | nil => rfl
  | cons x r ih => simp [strKeys, ih]
theorem intKeys_of (xs : List Int) : intKeys (xs.map Sum.inl) = some xs := by
  induction xs with
  | nil => rfl
  | cons x r ih => simp [intKeys, ih]
def sortSK : D → Option D
  | .dK ks _ => (match strKeys ks with
    | some xs => if okP (xs.length < 64) = true then some (.lst ((sortT xs).map .str)) else none
    | none => none)
  | _ => none
def sortIK : D → Option D
  | .dK ks _ => (match intKeys ks with
    | some xs => if okP (xs.length < 64) = true then some (.lst ((sortI xs).map .int)) else none
    | none => none)
  | _ => none
theorem zip_keys {ks : List Key} {vs : List V} (h : ks.length = vs.length) : (ks.zip vs).map (·.1) = ks := by
  rw [List.map_fst_zip]
  omega
theorem dSortSK (hc : X.calm = true) (hm : X.mg "sorted" = none) (h : PP X e s) (hg : Gl X "sorted" := by rfl) (he : starEach [e] X.env = (false, eval e X.env) :: starEach [] X.env := by rfl) (hpl : (backTo pos (starEach [] X.env)).any (·.1) = false := by rfl) : PP X (.Call (.Name "sorted" p) [e] [] pos) (s1 sortSK s) := by
  refine ⟨fun C ρ σ H Fs d k Q E hs q => ?_⟩
  obtain ⟨x, kx, h1, h2, rfl⟩ := s1_some hs
  have ha : PPA X [e] (sACons s sANil) := dACons h dANil (hs := he)
  refine WE.of (pe_callB (call_sortedD hc) hg hm PyProof.Rows.boot_sorted (wa X _) (by decide) (by decide) he hpl) ?_
  refine ha.run C ρ σ H Fs [(x, kx)] _ E (by unfold sACons sANil; rw [h1]) fun vs H1 Gs s1 r => ?_
  unfold sortSK at h2
  split at h2
  · rename_i ks ds
    split at h2
    · rename_i xs hb
      split at h2
      · rename_i hl64
        cases h2
        obtain ⟨v, rfl, r1⟩ := reps1 r.all.rep
        obtain ⟨a, ws, G, rfl, hl, h3, rs⟩ := RepR.dk dkk (H0 := H1) (Fs := fun _ => Gs.flatten) (kd_ := some [0]) ⟨r1, fun a ha => .inr ⟨0, by simp, ha⟩⟩
        refine ⟨a, _, xs, rfl, h3, ?_, okP_iff.mp hl64, fun ys q0 hp hsrt hq => ?_⟩
        · rw [zip_keys (by rw [rs.len]; exact hl.1)]
          exact strKeys_map hb
        · rw [sortT_one hp hsrt]
          have r0 : RepsR X.K H H1 Fs none ((sortT xs).map .str) ((sortT xs).map V.str) [] := ⟨reps_strs1 _, List.nodup_nil, fun a ha => by cases ha⟩
          exact q _ _ _ (s1.trans (same_new hq)) (r0.newL s1 hq)
      · cases h2
    · cases h2
  · cases h2
theorem dSortIK (hc : X.calm = true) (hm : X.mg "sorted" = none) (h : PP X e s) (hg : Gl X "sorted" := by rfl) (he : starEach [e] X.env = (false, eval e X.env) :: starEach [] X.env := by rfl) (hpl : (backTo pos (starEach [] X.env)).any (·.1) = false := by rfl) : PP X (.Call (.Name "sorted" p) [e] [] pos) (s1 sortIK s) := by
  refine ⟨fun C ρ σ H Fs d k Q E hs q => ?_⟩
  obtain ⟨x, kx, h1, h2, rfl⟩ := s1_some hs
  have ha : PPA X [e] (sACons s sANil) := dACons h dANil (hs := he)
  refine WE.of (pe_callB (call_sortedDI hc) hg hm PyProof.Rows.boot_sorted (wa X _) (by decide) (by decide) he hpl) ?_
  refine ha.run C ρ σ H Fs [(x, kx)] _ E (by unfold sACons sANil; rw [h1]) fun vs H1 Gs s1 r => ?_
  unfold sortIK at h2
  split at h2
  · rename_i ks ds
    split at h2
    · rename_i xs hb
      split at h2
      · rename_i hl64
        cases h2
        obtain ⟨v, rfl, r1⟩ := reps1 r.all.rep
        obtain ⟨a, ws, G, rfl, hl, h3, rs⟩ := RepR.dk dkk (H0 := H1) (Fs := fun _ => Gs.flatten) (kd_ := some [0]) ⟨r1, fun a ha => .inr ⟨0, by simp, ha⟩⟩
        refine ⟨a, _, xs, rfl, h3, ?_, okP_iff.mp hl64, fun ys q0 hp hsrt hq => ?_⟩
        · rw [zip_keys (by rw [rs.len]; exact hl.1)]
          exact intKeys_map hb
        · rw [sorted_one (hp.trans (sortI_perm xs).symm) hsrt (sortI_sorted xs)]
          have r0 : RepsR X.K H H1 Fs none ((sortI xs).map .int) ((sortI xs).map V.int) [] := ⟨reps_ints _, List.nodup_nil, fun a ha => by cases ha⟩
          exact q _ _ _ (s1.trans (same_new hq)) (r0.newL s1 hq)
      · cases h2
    · cases h2
  · cases h2
end
/-! ### plain -/
section
variable {ps : List Pt} {sa sb sc s : SE} {ma mb mc ms : R D} {XE : DEnv → Prop} {τ ω : Type} {X : Out → ω → Prop} {rest : SS}
theorem ef_s1 {f : D → Option D} (ha : Ee sa ps ma) : Ef (s1 f sa) ps (un1 f ma) := fun ρ e => post_bnd (ha ρ e) nox fun x ⟨k, ex⟩ => post_of fun z hz => by
  show s1 f sa ρ = some (z, none)
  unfold s1
  rw [ex]
  simp only [hz]
def dgetD (x y : D) : Option D := match getD' x y with
  | some (some z) => some z
  | _ => none
def dget2D (x y z : D) : Option D := match getD' x y with
  | some (some w) => some w
  | some none => some z
  | none => none
def op3 (f : D → D → D → Option D) (a b c : R D) : R D := a.bnd fun x => b.bnd fun y => c.bnd fun z => R.of (f x y z)
theorem dgetD_s {ρ : DEnv} {x y z : D} {k k' : Kd} (hx : sa ρ = some (x, k)) (hy : sb ρ = some (y, k')) (h : dgetD x y = some z) : sDGet sa sb ρ = some (z, kd z k) := by
  unfold dgetD at h
  unfold sDGet
  rw [hx, hy]
  split at h
  · rename_i w hw
    cases h
    simp only [hw]
  · cases h
theorem ee_dget (ha : Ee sa ps ma) (hb : Ee sb ps mb) : Ee (sDGet sa sb) ps (op2 dgetD ma mb) := fun ρ e =>
  post_bnd (ha ρ e) nox fun x ⟨k, ex⟩ => post_bnd (hb ρ e) nox fun y ⟨k', ey⟩ => post_of fun z hz => ⟨_, dgetD_s ex ey hz⟩
theorem ef_dget (ha : Ee sa ps ma) (hb : Ee sb ps mb) : Ef (sDGet sa sb) ps (immR (op2 dgetD ma mb)) := fun ρ e =>
  post_bnd (P := fun z => ∃ k2, sDGet sa sb ρ = some (z, kd z k2)) (post_bnd (ha ρ e) nox fun x ⟨k, ex⟩ => post_bnd (hb ρ e) nox fun y ⟨k', ey⟩ => post_of fun z hz => ⟨k, dgetD_s ex ey hz⟩) nox fun z ⟨k2, h⟩ => by
    split
    · rename_i hz
      show _ = some (z, none)
      rw [h]; simp [kd, hz]
    · trivial
theorem dget2D_s {ρ : DEnv} {x y z w : D} {k k' k3 : Kd} (hx : sa ρ = some (x, k)) (hy : sb ρ = some (y, k')) (hz : sc ρ = some (z, k3)) (h : dget2D x y z = some w) : ∃ k2, sDGet2 sa sb sc ρ = some (w, kd w k2) := by
  unfold dget2D at h
  unfold sDGet2
  rw [hx, hy, hz]
  split at h
  · rename_i w hw
    cases h
    exact ⟨k, by simp only [hw]⟩
  · rename_i hw
    cases h
    exact ⟨k3, by simp only [hw]⟩
  · cases h
theorem ee_dget2 (ha : Ee sa ps ma) (hb : Ee sb ps mb) (hc : Ee sc ps mc) : Ee (sDGet2 sa sb sc) ps (op3 dget2D ma mb mc) := fun ρ e =>
  post_bnd (ha ρ e) nox fun x ⟨k, ex⟩ => post_bnd (hb ρ e) nox fun y ⟨k', ey⟩ => post_bnd (hc ρ e) nox fun z ⟨k3, ez⟩ => post_of fun w hw => let ⟨k2, h⟩ := dget2D_s ex ey ez hw; ⟨_, h⟩
theorem ef_dget2 (ha : Ee sa ps ma) (hb : Ee sb ps mb) (hc : Ee sc ps mc) : Ef (sDGet2 sa sb sc) ps (immR (op3 dget2D ma mb mc)) := fun ρ e =>
  post_bnd (P := fun z => ∃ k2, sDGet2 sa sb sc ρ = some (z, kd z k2)) (post_bnd (ha ρ e) nox fun x ⟨k, ex⟩ => post_bnd (hb ρ e) nox fun y ⟨k', ey⟩ => post_bnd (hc ρ e) nox fun z ⟨k3, ez⟩ => post_of fun w hw => dget2D_s ex ey ez hw) nox fun z ⟨k2, h⟩ => by
    split
    · rename_i hz
      show _ = some (z, none)
      rw [h]; simp [kd, hz]
    · trivial
def dictD : D → Option D
  | .dK ks ds => some (.dK ks ds)
  | _ => none
def D.vals : D → List D
  | .dK _ ds => ds
  | .dT _ ds => ds
  | _ => []
def dvR (m : R D) : R D := m.bnd fun d => if imms d.vals = true then .ok d else .bad
theorem ee_dict (ha : Ee sa ps ma) : Ee (sDictD sa) ps (un1 dictD ma) := fun ρ e => post_bnd (ha ρ e) nox fun x ⟨k, ex⟩ => post_of fun z hz => by
  unfold dictD at hz
  split at hz
  · cases hz; exact ⟨_, by unfold sDictD; rw [ex]⟩
  · cases hz
theorem ef_dict (ha : Ee sa ps ma) : Ef (sDictD sa) ps (dvR (un1 dictD ma)) := fun ρ e =>
  post_bnd (P := fun z => ∃ k2, sDictD sa ρ = some (z, kds z.vals k2)) (post_bnd (ha ρ e) nox fun x ⟨k, ex⟩ => post_of fun z hz => by
    unfold dictD at hz
    split at hz
    · cases hz; exact ⟨k, by unfold sDictD; rw [ex]; rfl⟩
    · cases hz) nox fun z ⟨k2, h⟩ => by
    split
    · rename_i hz
      show _ = some (z, none)
      rw [h]; simp [kds, hz]
    · trivial
/-- d[k] = y -/
def putR (d : D) (mi : R D) (y : D) : R D := mi.bnd fun z => R.of (putD d z y)
theorem tl_dput {ix : SE} {s : SX} {i : Nat} {p : τ → Pt} {d : τ → D} {mi : τ → R D} {ms : R (D × τ)} {post : τ → List Pt} {k : D → τ → R ω} (hs : Ex s ps XE ms post) (hi : ∀ t, Ee ix (post t) (mi t)) (h : ∀ t, (post t)[i]? = some (p t)) (v : ∀ t, (p t).own = some (d t)) (hk : ∀ d' t, TL rest ((post t).set i ((p t).upd d')) X XE (k d' t)) :
    TL (sSeq (sDPut i ix s) rest) ps X XE (bnd2 ms fun y t => (putR (d t) (mi t) y).bnd fun d' => k d' t) := by
  have e0 : (bnd2 ms fun y t => (putR (d t) (mi t) y).bnd fun d' => k d' t) = (bnd2 ms fun y t => (putR (d t) (mi t) y).bnd fun d' => R.ok (d', t)).bnd fun z => k z.1 z.2 := by
    unfold bnd2
    cases ms with
    | bad => rfl
    | ex x => rfl
    | ok r =>
      show (putR (d r.2) (mi r.2) r.1).bnd _ = ((putR (d r.2) (mi r.2) r.1).bnd _).bnd _
      cases putR (d r.2) (mi r.2) r.1 <;> rfl
  rw [e0]
  refine tl_step (P := fun z ρ' => EPs ((post z.2).set i ((p z.2).upd z.1)) ρ') (fun ρ e => ?_) (fun z ρ' e => hk z.1 z.2 ρ' e)
  have b := hs ρ e
  cases ms with
  | bad => trivial
  | ex x =>
    obtain ⟨ρ', h1, h2⟩ := b
    exact ⟨ρ', by unfold sDPut; rw [h1], h2⟩
  | ok r =>
    obtain ⟨ρ', h1, h2⟩ := b
    obtain ⟨m, g1, g2, g3⟩ := h2.own (h r.2) (v r.2)
    show ((putR (d r.2) (mi r.2) r.1).bnd _).post _ _
    refine post_bnd (P := fun d' => ∃ ρ2, sDPut i ix s ρ = .nx ρ2 ∧ EPs ((post r.2).set i ((p r.2).upd d')) ρ2) (post_bnd (hi r.2 ρ' h2) nox fun z ⟨kz, ez⟩ => post_of fun d' hd => ?_) nox fun d' h => h
    refine ⟨ρ'.set i (some (d', m)), ?_, h2.set (g3 _)⟩
    unfold sDPut
    rw [h1]
    simp only [ez, g1]
    rw [if_pos (okP_iff.mpr ⟨g2, .inr trivial⟩)]
    simp only [hd]
theorem tl_dputE {ix : SE} {i : Nat} {p : Pt} {d : D} {mi : R D} {k : D → R ω} (hs : Ef s ps ms) (hi : Ee ix ps mi) (h : ps[i]? = some p) (v : p.own = some d) (hk : ∀ d', TL rest (ps.set i (p.upd d')) X XE (k d')) :
    TL (sSeq (sDPut i ix (sX s)) rest) ps X XE ((ms.bnd fun y => putR d mi y).bnd k) :=
  tl_step (P := fun d' ρ' => EPs (ps.set i (p.upd d')) ρ') (fun ρ e => post_bnd (hs ρ e) nox fun y ey => post_bnd (hi ρ e) nox fun z ⟨kz, ez⟩ => post_of fun d' hd => by
    obtain ⟨m, g1, g2, g3⟩ := e.own h v
    refine ⟨ρ.set i (some (d', m)), ?_, e.set (g3 _)⟩
    have ey : s ρ = some (y, none) := ey
    unfold sDPut sX
    rw [ey]
    simp only [ez, g1]
    rw [if_pos (okP_iff.mpr ⟨g2, .inr trivial⟩)]
    simp only [hd]) (fun d ρ' e => hk d ρ' e)
/-- d.pop(k) -/
def dpopR (d : D) (mi : R D) : R (D × D) := mi.bnd fun z => R.of (dropD d z)
theorem xe_dpop {ix : SE} {i : Nat} {p : Pt} {d : D} {mi : R D} (hi : Ee ix ps mi) (h : ps[i]? = some p) (v : p.own = some d) : Ex (sDPop i ix) ps XE (dpopR d mi) (fun d' => ps.set i (p.upd d')) := fun ρ e => by
  obtain ⟨m, h1, h2, h3⟩ := e.own h v
  refine post_bnd (hi ρ e) nox fun z ⟨kz, ez⟩ => post_of fun q hq => ?_
  obtain ⟨y, d'⟩ := q
  refine ⟨ρ.set i (some (d', m)), ?_, e.set (h3 _)⟩
  unfold sDPop
  simp only [ez, h1]
  rw [if_pos (okP_iff.mpr h2)]
  simp only [hq]
end
end DL
end DLsec33
set_option maxRecDepth 100000
noncomputable section DLsec34
/-! DL34: dicts compared, found the same. -/
namespace DL
open PySem PySem.Spec PyProof.Rows L2
def scD (ds : List D) : Prop := ∀ d ∈ ds, ∃ w, d.sc = some w
/-- the same dict, its values numbers, texts, truths, None; the order of the keys does not count -/
def SameK (ks : List Key) (ds : List D) (ls : List Key) (es : List D) : Prop :=
  scD ds ∧ ((ks = ls ∧ ds = es) ∨ (ks.length = ls.length ∧ ∀ (n : Nat) (k : Key) (d : D), ks[n]? = some k → ds[n]? = some d → lkD ls es k = some d))
theorem lkD_self {ks : List Key} {ds : List D} (nd : ks.Nodup) : ∀ {n : Nat} {k : Key} {d : D}, ks[n]? = some k → ds[n]? = some d → lkD ks ds k = some d := fun {n k d} h1 h2 => by
  obtain ⟨m, hm⟩ := posK_mem (List.mem_of_getElem? h1)
  have e : m = n := by
    have hm2 := posK_at hm
    exact (List.getElem?_inj (posK_lt hm) nd).mp (hm2.trans h1.symm)
  unfold lkD
  rw [hm, e]
  exact h2
section
variable {X : Cx} {K : PySem.W.Frag} {H : Hp}
theorem sameK_rep {ks ls : List Key} {ds es : List D} {v u : V} {F G : List Addr} (h : SameK ks ds ls es) (r1 : Rep K H false (.dK ks ds) v F) (r2 : Rep K H false (.dK ls es) u G) :
    ∃ a b kvs lvs, v = .ref a ∧ u = .ref b ∧ Rd H a (.dK kvs) ∧ Rd H b (.dK lvs) ∧ kvs.length = lvs.length ∧ ∀ p ∈ kvs, valV lvs p.1 = some p.2 ∧ flatB p.2 = true := by
  obtain ⟨hs, h⟩ := h
  obtain ⟨a, vs, G1, rfl, hl1, ha, rs1⟩ := RepR.dk dkk (H0 := H) (Fs := fun _ => F) (kd_ := some [0]) ⟨r1, fun a ha => .inr ⟨0, by simp, ha⟩⟩
  obtain ⟨b, ws, G2, rfl, hl2, hb, rs2⟩ := RepR.dk dkk (H0 := H) (Fs := fun _ => G) (kd_ := some [0]) ⟨r2, fun a ha => .inr ⟨0, by simp, ha⟩⟩
  have hv : ks.length = vs.length := by rw [rs1.len]; exact hl1.1
  have hw : ls.length = ws.length := by rw [rs2.len]; exact hl2.1
  have h2 : ks.length = ls.length ∧ ∀ (n : Nat) (k : Key) (d : D), ks[n]? = some k → ds[n]? = some d → lkD ls es k = some d := by
    rcases h with ⟨rfl, rfl⟩ | h
    · exact ⟨rfl, fun n k d q1 q2 => lkD_self hl1.2 q1 q2⟩
    · exact h
  refine ⟨a, b, ks.zip vs, ls.zip ws, rfl, rfl, ha, hb, by rw [List.length_zip, List.length_zip, ← hv, ← hw, h2.1], fun p hp => ?_⟩
  obtain ⟨n, hn, e⟩ := List.getElem_of_mem hp
  have hn' : n < ks.length := by rw [List.length_zip] at hn; omega
  have hd : n < ds.length := by rw [← hl1.1]; exact hn'
  have e1 : p = (ks[n], vs[n]'(by omega)) := by rw [← e, List.getElem_zip]
  have q := h2.2 n _ _ (List.getElem?_eq_getElem hn') (List.getElem?_eq_getElem hd)
  obtain ⟨w, hw'⟩ := hs _ (List.getElem_mem hd)
  obtain ⟨x, Gx, ex, rx⟩ := rs1.get (List.getElem?_eq_getElem hd)
  have ex' : vs[n]'(by omega) = x := by
    rw [List.getElem?_eq_getElem (by omega)] at ex
    exact Option.some.inj ex
  have xw : x = w := sc_rep hw' rx.rep
  have g := lkD_rep (k := ks[n]) hl2.1 rs2
  rw [q] at g
  obtain ⟨y, G', ey, ry⟩ := g
  have yw : y = w := sc_rep hw' ry.rep
  rw [e1]
  refine ⟨by rw [ey, yw, ex', xw], ?_⟩
  show flatB (vs[n]'(by omega)) = true
  rw [ex', xw]
  generalize ds[n] = d0 at hw'
  cases d0 <;> cases hw' <;> rfl
def fEqK : D → D → Option D := fun x y => match x, y with
  | .dK ks ds, .dK ls es => if okP (SameK ks ds ls es) = true then some (.bl true) else none
  | _, _ => none
def fNeK : D → D → Option D := fun x y => match x, y with
  | .dK ks ds, .dK ls es => if okP (SameK ks ds ls es) = true then some (.bl false) else none
  | _, _ => none
theorem oEqK (hu : X.A.units + 64 < cLine) : OpD X (compareOp .Eq) fEqK := by
  refine ⟨fun x y H Q => ∃ a b kvs lvs, x = .ref a ∧ y = .ref b ∧ Rd H a (.dK kvs) ∧ Rd H b (.dK lvs) ∧ kvs.length = lvs.length ∧ (∀ p ∈ kvs, valV lvs p.1 = some p.2 ∧ flatB p.2 = true) ∧ Q (.bl true) H, fun pins s σ H x y v u Q I rx ry h => ?_, fun x y z h => ?_⟩
  · obtain ⟨a, b, kvs, lvs, rfl, rfl, ea, eb, hl, hp, q⟩ := h
    obtain rfl : v = Value.ref a := rx
    obtain rfl : u = Value.ref b := ry
    obtain ⟨_, ya, va, ra, da⟩ := dk_rd I.hok ea
    obtain ⟨_, yb, vb, rb, db⟩ := dk_rd I.hok eb
    have hl2 : va.length = vb.length := ra.length.symm.trans (hl.trans rb.length)
    exact PySem.W.keq_eq (knd := mixKind X.prog X.w) (r := true) ya yb da db (by omega) (fun _ => hits_all rb ra hp) (fin_bl I q (by simp [hl2]))
  · unfold fEqK at h
    split at h
    · split at h
      · rename_i hk
        cases h
        refine ⟨rfl, fun H v u F G Q r1 r2 q => ?_⟩
        obtain ⟨a, b, kvs, lvs, e1, e2, e3, e4, e5, e6⟩ := sameK_rep (okP_iff.mp hk) r1 r2
        exact ⟨a, b, kvs, lvs, e1, e2, e3, e4, e5, e6, q _ H (Same.refl H) ⟨rfl, rfl⟩⟩
      · cases h
    · cases h
theorem oNeK (hu : X.A.units + 64 < cLine) : OpD X (compareOp .NotEq) fNeK := by
  refine ⟨fun x y H Q => ∃ a b kvs lvs, x = .ref a ∧ y = .ref b ∧ Rd H a (.dK kvs) ∧ Rd H b (.dK lvs) ∧ kvs.length = lvs.length ∧ (∀ p ∈ kvs, valV lvs p.1 = some p.2 ∧ flatB p.2 = true) ∧ Q (.bl false) H, fun pins s σ H x y v u Q I rx ry h => ?_, fun x y z h => ?_⟩
  · obtain ⟨a, b, kvs, lvs, rfl, rfl, ea, eb, hl, hp, q⟩ := h
    obtain rfl : v = Value.ref a := rx
    obtain rfl : u = Value.ref b := ry
    obtain ⟨_, ya, va, ra, da⟩ := dk_rd I.hok ea
    obtain ⟨_, yb, vb, rb, db⟩ := dk_rd I.hok eb
    have hl2 : va.length = vb.length := ra.length.symm.trans (hl.trans rb.length)
    exact PySem.W.keq_ne (knd := mixKind X.prog X.w) (r := true) ya yb da db (by omega) (fun _ => hits_all rb ra hp) (fin_bl I q (by simp [hl2]))
  · unfold fNeK at h
    split at h
    · split at h
      · rename_i hk
        cases h
        refine ⟨rfl, fun H v u F G Q r1 r2 q => ?_⟩
        obtain ⟨a, b, kvs, lvs, e1, e2, e3, e4, e5, e6⟩ := sameK_rep (okP_iff.mp hk) r1 r2
        exact ⟨a, b, kvs, lvs, e1, e2, e3, e4, e5, e6, q _ H (Same.refl H) ⟨rfl, rfl⟩⟩
      · cases h
    · cases h
end
end DL
end DLsec34
set_option maxRecDepth 100000
noncomputable section DLsec35
/-! DL35: a dict that is walked: locked while the statement runs. -/
namespace DL
open PySem PySem.Spec PyProof.Rows L2
def LkU (u : HO) : Prop := (∃ kvs, u = .dK kvs) ∨ ∃ kvs, u = .dT kvs
section
variable {K : PySem.W.Frag} {H H' : Hp} {o : Bool} {a : Addr} {u : HO} {od : Obj}
theorem LkU.mu (l : LkU u) : Mu u := by rcases l with ⟨_, rfl⟩ | ⟨_, rfl⟩ <;> trivial
theorem LkU.mt (l : LkU u) : Mut (some u) := by rcases l with ⟨_, rfl⟩ | ⟨_, rfl⟩ <;> trivial
theorem LkU.nl (l : LkU u) {xs : List V} : u ≠ .lst xs := by rcases l with ⟨_, rfl⟩ | ⟨_, rfl⟩ <;> intro h <;> cases h
theorem LkU.nt (l : LkU u) {xs : List V} : u ≠ .tup xs := by rcases l with ⟨_, rfl⟩ | ⟨_, rfl⟩ <;> intro h <;> cases h
/-- from here on what stands at a stands otherwise; all else stays -/
structure Sw (a : Addr) (p q : HO) (H H' : Hp) : Prop where
  pre : H a = some p
  post : H' a = some q
  ne : ∀ b, b ≠ a → H' b = H b
theorem Sw.keep {p q : HO} (s : Sw a p q H H') {b : Addr} {x : HO} (h : H b = some x) (n : x ≠ p) : H' b = some x := by
  rw [s.ne b fun z => ?_]
  · exact h
  · rw [z, s.pre] at h
    exact n (Option.some.inj h).symm
theorem Sw.sqT {p q : HO} (s : Sw a p q H H') (l : LkU u) (hp : p = u ∨ p = .frz od u) {b : Addr} {xs : List V} (h : SqT K H b xs) : SqT K H' b xs := by
  have n1 : ∀ ys, (HO.tup ys) ≠ p := fun ys z => by
    rcases hp with rfl | rfl
    · exact l.nt z.symm
    · cases z
  have n2 : ∀ o' ys, (HO.frz o' (.tup ys)) ≠ p := fun o' ys z => by
    rcases hp with rfl | rfl
    · rcases l with ⟨_, rfl⟩ | ⟨_, rfl⟩ <;> cases z
    · injection z with z1 z2; exact l.nt z2.symm
  rcases h with (h | ⟨o', h⟩) | h
  · exact .inl (.inl (s.keep h (n1 _)))
  · exact .inl (.inr ⟨o', s.keep h (n2 _ _)⟩)
  · exact .inr h
theorem Sw.roL {p q : HO} (s : Sw a p q H H') (l : LkU u) (hp : p = u ∨ p = .frz od u) {b : Addr} {xs : List V} (h : RoL K H b xs) : RoL K H' b xs := by
  rcases h with ⟨o', h⟩ | h
  · refine .inl ⟨o', s.keep h fun z => ?_⟩
    rcases hp with rfl | rfl
    · rcases l with ⟨_, rfl⟩ | ⟨_, rfl⟩ <;> cases z
    · injection z with z1 z2; exact l.nl z2.symm
  · exact .inr h
end
section
variable {K : PySem.W.Frag} {H H' : Hp} {o : Bool} {a : Addr} {u : HO} {od : Obj}
mutual
/-- unlocked -/
theorem Rep.un (s : Sw a (.frz od u) u H H') (l : LkU u) : ∀ (d : D) (v : V) (F : List Addr), Rep K H o d v F → ∃ F', Rep K H' o d v F' ∧ (∀ x ∈ F', x ∈ F ∨ (x = a ∧ o = false)) ∧ (o = true → F' = F)
  | .non, _, F, h => ⟨F, h, fun x hx => .inl hx, fun _ => rfl⟩
  | .bl _, _, F, h => ⟨F, h, fun x hx => .inl hx, fun _ => rfl⟩
  | .int _, _, F, h => ⟨F, h, fun x hx => .inl hx, fun _ => rfl⟩
  | .str _, _, F, h => ⟨F, h, fun x hx => .inl hx, fun _ => rfl⟩
  | .opq _, _, F, h => ⟨F, h, fun x hx => .inl hx, fun _ => rfl⟩
  | .tup ds, v, F, h => by
    obtain ⟨b, vs, h1, h2, h3⟩ := h
    obtain ⟨F', r, q1, q2⟩ := Reps.un s l ds vs F h3
    exact ⟨F', ⟨b, vs, h1, s.keep h2 (fun z => by cases z), r⟩, q1, q2⟩
  | .cot ds, v, F, h => by
    obtain ⟨b, vs, h1, h2, h3⟩ := h
    obtain ⟨F', r, q1, q2⟩ := Reps.un s l ds vs F h3
    exact ⟨F', ⟨b, vs, h1, s.sqT l (.inr rfl) h2, r⟩, q1, q2⟩
  | .exc c ns ds, v, F, h => by
    obtain ⟨hF, e, C, d, h1, h2, h3, h4⟩ := h
    refine ⟨F, ⟨hF, e, C, d, h1, h2, s.keep h3 (fun z => by cases z), h4.imp id fun ⟨dd, vs, e1, e2, im, e3⟩ => ⟨dd, vs, e1, s.keep e2 (fun z => by cases z), im, ?_⟩⟩, fun x hx => .inl hx, fun _ => rfl⟩
    obtain ⟨F', r, q1, q2⟩ := Reps.un s l ds vs [] e3
    rw [(Reps.im ds vs F' im r).1] at r
    exact r
  | .lst ds, v, F, h => by
    obtain ⟨b, vs, G, h1, h2, h3, h4⟩ := h
    obtain ⟨G', r, q1, q2⟩ := Reps.un s l ds vs G h2
    refine ⟨b :: G', ⟨b, vs, G', h1, r, s.keep h3 (fun z => by cases z), rfl⟩, fun x hx => ?_, fun ho => by rw [q2 ho, h4]⟩
    rw [h4]
    rcases List.mem_cons.mp hx with rfl | hx
    · exact .inl List.mem_cons_self
    · exact (q1 x hx).imp (List.mem_cons_of_mem _) id
  | .rol ds, v, F, h => by
    obtain ⟨b, vs, h1, h2, h3⟩ := h
    obtain ⟨F', r, q1, q2⟩ := Reps.un s l ds vs F h3
    exact ⟨F', ⟨b, vs, h1, s.roL l (.inr rfl) h2, r⟩, q1, q2⟩
  | .dK ks ds, v, F, h => by
    obtain ⟨b, vs, G, h1, h2, hl, h3⟩ := h
    obtain ⟨G', r, q1, q2⟩ := Reps.un s l ds vs G h2
    rcases h3 with ⟨h3, h4⟩ | ⟨ho, ⟨ob, h3⟩, h4⟩
    · refine ⟨b :: G', ⟨b, vs, G', h1, r, hl, .inl ⟨s.keep h3 (fun z => by cases z), rfl⟩⟩, fun x hx => ?_, fun ho => by rw [q2 ho, h4]⟩
      rw [h4]
      rcases List.mem_cons.mp hx with rfl | hx
      · exact .inl List.mem_cons_self
      · exact (q1 x hx).imp (List.mem_cons_of_mem _) id
    · by_cases e : b = a
      · subst e
        rw [s.pre] at h3
        injection h3 with h3
        injection h3 with e1 e2
        refine ⟨b :: G', ⟨b, vs, G', h1, r, hl, .inl ⟨by rw [s.post, e2], rfl⟩⟩, fun x hx => ?_, fun z => by rw [ho] at z; cases z⟩
        rcases List.mem_cons.mp hx with rfl | hx
        · exact .inr ⟨rfl, ho⟩
        · rw [h4]; exact q1 x hx
      · exact ⟨G', ⟨b, vs, G', h1, r, hl, .inr ⟨ho, ⟨ob, by rw [s.ne b e]; exact h3⟩, rfl⟩⟩, fun x hx => by rw [h4]; exact q1 x hx, fun z => by rw [q2 z, h4]⟩
  | .dT ks ds, v, F, h => by
    obtain ⟨b, vs, G, h1, h2, hl, h3⟩ := h
    obtain ⟨G', r, q1, q2⟩ := Reps.un s l ds vs G h2
    rcases h3 with ⟨h3, h4⟩ | ⟨ho, ⟨ob, h3⟩, h4⟩
    · refine ⟨b :: G', ⟨b, vs, G', h1, r, hl, .inl ⟨s.keep h3 (fun z => by cases z), rfl⟩⟩, fun x hx => ?_, fun ho => by rw [q2 ho, h4]⟩
      rw [h4]
      rcases List.mem_cons.mp hx with rfl | hx
      · exact .inl List.mem_cons_self
      · exact (q1 x hx).imp (List.mem_cons_of_mem _) id
    · by_cases e : b = a
      · subst e
        rw [s.pre] at h3
        injection h3 with h3
        injection h3 with e1 e2
        refine ⟨b :: G', ⟨b, vs, G', h1, r, hl, .inl ⟨by rw [s.post, e2], rfl⟩⟩, fun x hx => ?_, fun z => by rw [ho] at z; cases z⟩
        rcases List.mem_cons.mp hx with rfl | hx
        · exact .inr ⟨rfl, ho⟩
        · rw [h4]; exact q1 x hx
      · exact ⟨G', ⟨b, vs, G', h1, r, hl, .inr ⟨ho, ⟨ob, by rw [s.ne b e]; exact h3⟩, rfl⟩⟩, fun x hx => by rw [h4]; exact q1 x hx, fun z => by rw [q2 z, h4]⟩
theorem Reps.un (s : Sw a (.frz od u) u H H') (l : LkU u) : ∀ (ds : List D) (vs : List V) (F : List Addr), Reps K H o ds vs F → ∃ F', Reps K H' o ds vs F' ∧ (∀ x ∈ F', x ∈ F ∨ (x = a ∧ o = false)) ∧ (o = true → F' = F)
  | [], _, F, h => ⟨F, h, fun x hx => .inl hx, fun _ => rfl⟩
  | d :: ds, vs, F, h => by
    obtain ⟨v, r, G1, G2, h1, h2, h3, h4⟩ := h
    obtain ⟨F1, r1, p1, p2⟩ := Rep.un s l d v G1 h3
    obtain ⟨F2, r2, q1, q2⟩ := Reps.un s l ds r G2 h4
    refine ⟨F1 ++ F2, ⟨v, r, F1, F2, h1, rfl, r1, r2⟩, fun x hx => ?_, fun ho => by rw [p2 ho, q2 ho, h2]⟩
    rw [h2]
    rcases List.mem_append.mp hx with hx | hx
    · exact (p1 x hx).imp (List.mem_append_left _) id
    · exact (q1 x hx).imp (List.mem_append_right _) id
end
mutual
/-- locked -/
theorem Rep.lk (s : Sw a u (.frz od u) H H') (l : LkU u) : ∀ (d : D) (v : V) (F : List Addr), Rep K H o d v F → (o = true → a ∉ F) → ∃ F', Rep K H' o d v F' ∧ (∀ x ∈ F', x ∈ F) ∧ (o = true → F' = F)
  | .non, _, F, h, _ => ⟨F, h, fun x hx => hx, fun _ => rfl⟩
  | .bl _, _, F, h, _ => ⟨F, h, fun x hx => hx, fun _ => rfl⟩
  | .int _, _, F, h, _ => ⟨F, h, fun x hx => hx, fun _ => rfl⟩
  | .str _, _, F, h, _ => ⟨F, h, fun x hx => hx, fun _ => rfl⟩
  | .opq _, _, F, h, _ => ⟨F, h, fun x hx => hx, fun _ => rfl⟩
  | .tup ds, v, F, h, n => by
    obtain ⟨b, vs, h1, h2, h3⟩ := h
    obtain ⟨F', r, q1, q2⟩ := Reps.lk s l ds vs F h3 n
    exact ⟨F', ⟨b, vs, h1, s.keep h2 (fun z => l.nt z.symm), r⟩, q1, q2⟩
  | .cot ds, v, F, h, n => by
    obtain ⟨b, vs, h1, h2, h3⟩ := h
    obtain ⟨F', r, q1, q2⟩ := Reps.lk s l ds vs F h3 n
    exact ⟨F', ⟨b, vs, h1, s.sqT (od := od) l (.inl rfl) h2, r⟩, q1, q2⟩
  | .exc c ns ds, v, F, h, n => by
    obtain ⟨hF, e, C, d, h1, h2, h3, h4⟩ := h
    refine ⟨F, ⟨hF, e, C, d, h1, h2, s.keep h3 (fun z => by rcases l with ⟨_, rfl⟩ | ⟨_, rfl⟩ <;> cases z), h4.imp id fun ⟨dd, vs, e1, e2, im, e3⟩ => ⟨dd, vs, e1, s.keep e2 (fun z => by rcases l with ⟨_, rfl⟩ | ⟨_, rfl⟩ <;> cases z), im, ?_⟩⟩, fun x hx => hx, fun _ => rfl⟩
    obtain ⟨F', r, q1, q2⟩ := Reps.lk s l ds vs [] e3 (fun _ z => by cases z)
    rw [(Reps.im ds vs F' im r).1] at r
    exact r
  | .lst ds, v, F, h, n => by
    obtain ⟨b, vs, G, h1, h2, h3, h4⟩ := h
    obtain ⟨G', r, q1, q2⟩ := Reps.lk s l ds vs G h2 (fun ho z => n ho (by rw [h4]; exact List.mem_cons_of_mem _ z))
    refine ⟨b :: G', ⟨b, vs, G', h1, r, s.keep h3 (fun z => l.nl z.symm), rfl⟩, fun x hx => ?_, fun ho => by rw [q2 ho, h4]⟩
    rw [h4]
    rcases List.mem_cons.mp hx with rfl | hx
    · exact List.mem_cons_self
    · exact List.mem_cons_of_mem _ (q1 x hx)
  | .rol ds, v, F, h, n => by
    obtain ⟨b, vs, h1, h2, h3⟩ := h
    obtain ⟨F', r, q1, q2⟩ := Reps.lk s l ds vs F h3 n
    exact ⟨F', ⟨b, vs, h1, s.roL (od := od) l (.inl rfl) h2, r⟩, q1, q2⟩
  | .dK ks ds, v, F, h, n => by
    obtain ⟨b, vs, G, h1, h2, hl, h3⟩ := h
    have hG : ∀ x ∈ G, x ∈ F := fun x hx => by
      rcases h3 with ⟨_, h4⟩ | ⟨_, _, h4⟩
      · rw [h4]; exact List.mem_cons_of_mem _ hx
      · rw [h4]; exact hx
    obtain ⟨G', r, q1, q2⟩ := Reps.lk s l ds vs G h2 (fun ho z => n ho (hG a z))
    rcases h3 with ⟨h3, h4⟩ | ⟨ho, ⟨ob, h3⟩, h4⟩
    · by_cases e : b = a
      · subst e
        have hof : o = false := by
          cases o with
          | false => rfl
          | true => exact absurd (by rw [h4]; exact List.mem_cons_self) (n rfl)
        rw [s.pre] at h3
        injection h3 with h3
        exact ⟨G', ⟨b, vs, G', h1, r, hl, .inr ⟨hof, ⟨od, by rw [s.post, h3]⟩, rfl⟩⟩, fun x hx => hG x (q1 x hx), fun z => by rw [hof] at z; cases z⟩
      · refine ⟨b :: G', ⟨b, vs, G', h1, r, hl, .inl ⟨by rw [s.ne b e]; exact h3, rfl⟩⟩, fun x hx => ?_, fun ho => by rw [q2 ho, h4]⟩
        rcases List.mem_cons.mp hx with rfl | hx
        · rw [h4]; exact List.mem_cons_self
        · exact hG x (q1 x hx)
    · exact ⟨G', ⟨b, vs, G', h1, r, hl, .inr ⟨ho, ⟨ob, s.keep h3 (fun z => by rcases l with ⟨_, rfl⟩ | ⟨_, rfl⟩ <;> cases z)⟩, rfl⟩⟩, fun x hx => hG x (q1 x hx), fun z => by rw [ho] at z; cases z⟩
  | .dT ks ds, v, F, h, n => by
    obtain ⟨b, vs, G, h1, h2, hl, h3⟩ := h
    have hG : ∀ x ∈ G, x ∈ F := fun x hx => by
      rcases h3 with ⟨_, h4⟩ | ⟨_, _, h4⟩
      · rw [h4]; exact List.mem_cons_of_mem _ hx
      · rw [h4]; exact hx
    obtain ⟨G', r, q1, q2⟩ := Reps.lk s l ds vs G h2 (fun ho z => n ho (hG a z))
    rcases h3 with ⟨h3, h4⟩ | ⟨ho, ⟨ob, h3⟩, h4⟩
    · by_cases e : b = a
      · subst e
        have hof : o = false := by
          cases o with
          | false => rfl
          | true => exact absurd (by rw [h4]; exact List.mem_cons_self) (n rfl)
        rw [s.pre] at h3
        injection h3 with h3
        exact ⟨G', ⟨b, vs, G', h1, r, hl, .inr ⟨hof, ⟨od, by rw [s.post, h3]⟩, rfl⟩⟩, fun x hx => hG x (q1 x hx), fun z => by rw [hof] at z; cases z⟩
      · refine ⟨b :: G', ⟨b, vs, G', h1, r, hl, .inl ⟨by rw [s.ne b e]; exact h3, rfl⟩⟩, fun x hx => ?_, fun ho => by rw [q2 ho, h4]⟩
        rcases List.mem_cons.mp hx with rfl | hx
        · rw [h4]; exact List.mem_cons_self
        · exact hG x (q1 x hx)
    · exact ⟨G', ⟨b, vs, G', h1, r, hl, .inr ⟨ho, ⟨ob, s.keep h3 (fun z => by rcases l with ⟨_, rfl⟩ | ⟨_, rfl⟩ <;> cases z)⟩, rfl⟩⟩, fun x hx => hG x (q1 x hx), fun z => by rw [ho] at z; cases z⟩
theorem Reps.lk (s : Sw a u (.frz od u) H H') (l : LkU u) : ∀ (ds : List D) (vs : List V) (F : List Addr), Reps K H o ds vs F → (o = true → a ∉ F) → ∃ F', Reps K H' o ds vs F' ∧ (∀ x ∈ F', x ∈ F) ∧ (o = true → F' = F)
  | [], _, F, h, _ => ⟨F, h, fun x hx => hx, fun _ => rfl⟩
  | d :: ds, vs, F, h, n => by
    obtain ⟨v, r, G1, G2, h1, h2, h3, h4⟩ := h
    obtain ⟨F1, r1, p1, p2⟩ := Rep.lk s l d v G1 h3 (fun ho z => n ho (by rw [h2]; exact List.mem_append_left _ z))
    obtain ⟨F2, r2, q1, q2⟩ := Reps.lk s l ds r G2 h4 (fun ho z => n ho (by rw [h2]; exact List.mem_append_right _ z))
    refine ⟨F1 ++ F2, ⟨v, r, F1, F2, h1, rfl, r1, r2⟩, fun x hx => ?_, fun ho => by rw [p2 ho, q2 ho, h2]⟩
    rw [h2]
    rcases List.mem_append.mp hx with hx | hx
    · exact List.mem_append_left _ (p1 x hx)
    · exact List.mem_append_right _ (q1 x hx)
end
end
/-- what stands still, a locked -/
def lkP (P : Hp) (a : Addr) (p : HO) : Hp := fun b => if b = a then some p else P b
section
variable {K : PySem.W.Frag} {C : Ct} {H H' : Hp} {ρ : DEnv} {σ : L2.St} {Fs : Nat → List Addr} {a : Addr} {u : HO} {od : Obj}
theorem EnvOk.lock (E : EnvOk K C H ρ σ Fs) (ha : H a = some u) (l : LkU u) (hn : ∀ i d m, Has ρ i d m → m.o = true → a ∉ Fs i) : ∃ Fs', EnvOk K ⟨lkP C.P a (.frz od u), C.pin⟩ (upd H a (.frz od u)) ρ σ Fs' ∧ ∀ i, ∀ x ∈ Fs' i, x ∈ Fs i := by
  have s : Sw a u (.frz od u) H (upd H a (.frz od u)) := ⟨ha, upd_same, fun b hb => upd_ne hb⟩
  have ex : ∀ i, ∃ F', (∀ d m, Has ρ i d m → ∃ v, σ[i]? = some (some v) ∧ Rep K (upd H a (.frz od u)) m.o d v F' ∧ (m.o = true → F' = Fs i)) ∧ (∀ x ∈ F', x ∈ Fs i) ∧ ((∀ d m, ¬ Has ρ i d m) → F' = []) := fun i => by
    by_cases h : ∃ d m, Has ρ i d m
    · obtain ⟨d, m, h⟩ := h
      obtain ⟨v, hv, r⟩ := E.rep i d m h
      obtain ⟨F', r', q1, q2⟩ := Rep.lk s l d v (Fs i) r (hn i d m h)
      refine ⟨F', fun d' m' h' => ?_, q1, fun z => absurd h (z d m)⟩
      have e : some (some (d, m)) = some (some (d', m')) := h.symm.trans h'
      cases e
      exact ⟨v, hv, r', q2⟩
    · exact ⟨[], fun d m z => absurd ⟨d, m, z⟩ h, fun x hx => (by cases hx), fun _ => rfl⟩
  refine ⟨fun i => (ex i).choose, ⟨E.len, fun i d m h => ?_, fun i d m h ho => ?_, fun i j d m e n hij h ho h' x hx hx' => ?_, fun b o e => ?_, E.arg, fun i h => (ex i).choose_spec.2.2 h⟩, fun i => (ex i).choose_spec.2.1⟩
  · obtain ⟨v, hv, r, _⟩ := (ex i).choose_spec.1 d m h
    exact ⟨v, hv, r⟩
  · obtain ⟨v, hv, r, q⟩ := (ex i).choose_spec.1 d m h
    refine ⟨by rw [q ho]; exact (E.nd i d m h ho).1, fun x hx => ?_⟩
    rw [q ho] at hx
    show lkP _ _ _ x = none
    unfold lkP
    rw [if_neg (fun (z : x = a) => hn i d m h ho (z ▸ hx))]
    exact (E.nd i d m h ho).2 x hx
  · exact E.dis i j d m e n hij h ho h' x ((ex i).choose_spec.2.1 x hx) ((ex j).choose_spec.2.1 x hx')
  · have e : lkP C.P a (.frz od u) b = some o := e
    unfold lkP at e
    by_cases z : b = a
    · rw [if_pos z] at e; rw [z, upd_same, ← e]
    · rw [if_neg z] at e; rw [upd_ne z]; exact E.prot b o e
theorem EnvOk.unlock (E : EnvOk K ⟨lkP C.P a (.frz od u), C.pin⟩ H ρ σ Fs) (l : LkU u) (hc : ∀ o, C.P a = some o → o = u) : H a = some (.frz od u) ∧ ∃ Fs', EnvOk K C (upd H a u) ρ σ Fs' ∧ (∀ i d m, Has ρ i d m → m.o = true → Fs' i = Fs i) ∧ ∀ i, ∀ x ∈ Fs' i, x ∈ Fs i ∨ x = a := by
  have ha : H a = some (.frz od u) := E.prot a _ (by show lkP _ _ _ a = _; unfold lkP; rw [if_pos rfl])
  have s : Sw a (.frz od u) u H (upd H a u) := ⟨ha, upd_same, fun b hb => upd_ne hb⟩
  refine ⟨ha, ?_⟩
  have ex : ∀ i, ∃ F', (∀ d m, Has ρ i d m → ∃ v, σ[i]? = some (some v) ∧ Rep K (upd H a u) m.o d v F' ∧ (m.o = true → F' = Fs i) ∧ (∀ x ∈ F', x ∈ Fs i ∨ (x = a ∧ m.o = false))) ∧ ((∀ d m, ¬ Has ρ i d m) → F' = []) := fun i => by
    by_cases h : ∃ d m, Has ρ i d m
    · obtain ⟨d, m, h⟩ := h
      obtain ⟨v, hv, r⟩ := E.rep i d m h
      obtain ⟨F', r', q1, q2⟩ := Rep.un s l d v (Fs i) r
      refine ⟨F', fun d' m' h' => ?_, fun z => absurd h (z d m)⟩
      have e : some (some (d, m)) = some (some (d', m')) := h.symm.trans h'
      cases e
      exact ⟨v, hv, r', q2, q1⟩
    · exact ⟨[], fun d m z => absurd ⟨d, m, z⟩ h, fun _ => rfl⟩
  have own : ∀ i d m, Has ρ i d m → m.o = true → (ex i).choose = Fs i := fun i d m h ho => ((ex i).choose_spec.1 d m h).choose_spec.2.2.1 ho
  have na : ∀ i d m, Has ρ i d m → m.o = true → a ∉ Fs i := fun i d m h ho z => by
    have := (E.nd i d m h ho).2 a z
    have e : (Ct.mk (lkP C.P a (.frz od u)) C.pin).P a = some (.frz od u) := by show lkP _ _ _ a = _; unfold lkP; rw [if_pos rfl]
    rw [e] at this; cases this
  have sub : ∀ i, ∀ x ∈ (ex i).choose, x ∈ Fs i ∨ x = a := fun i x hx => by
    by_cases h : ∃ d m, Has ρ i d m
    · obtain ⟨d, m, h⟩ := h
      exact (((ex i).choose_spec.1 d m h).choose_spec.2.2.2 x hx).imp id And.left
    · rw [(ex i).choose_spec.2 fun d m z => h ⟨d, m, z⟩] at hx; cases hx
  refine ⟨fun i => (ex i).choose, ⟨E.len, fun i d m h => ?_, fun i d m h ho => ?_, fun i j d m e n hij h ho h' x hx hx' => ?_, fun b o e => ?_, E.arg, fun i h => (ex i).choose_spec.2 h⟩, own, sub⟩
  · obtain ⟨v, hv, r, _⟩ := (ex i).choose_spec.1 d m h
    exact ⟨v, hv, r⟩
  · show ((ex i).choose).Nodup ∧ ∀ x ∈ (ex i).choose, _
    rw [own i d m h ho]
    refine ⟨(E.nd i d m h ho).1, fun x hx => ?_⟩
    have := (E.nd i d m h ho).2 x hx
    have e : lkP C.P a (.frz od u) x = none := this
    unfold lkP at e
    rw [if_neg (fun (z : x = a) => na i d m h ho (z ▸ hx))] at e
    exact e
  · have hx : x ∈ (ex i).choose := hx
    have hx' : x ∈ (ex j).choose := hx'
    rw [own i d m h ho] at hx
    rcases sub j x hx' with q | q
    · exact E.dis i j d m e n hij h ho h' x hx q
    · exact na i d m h ho (q ▸ hx)
  · by_cases z : b = a
    · rw [z] at e; rw [z, upd_same, hc o e]
    · rw [upd_ne z]
      exact E.prot b o (by show lkP _ _ _ b = _; unfold lkP; rw [if_neg z]; exact e)
end
section
variable {X : Cx} {C : Ct} {ρ ρ' : DEnv} {σ : L2.St} {H H' : Hp} {Fs : Nat → List Addr} {a : Addr} {u : HO} {st : Stmt} {Z : Ends} {W : WX}
/-- the ends, a locked -/
def lkE (a : Addr) (u : HO) (od : Obj) (D : Ends) : Ends := ⟨fun σ' H' => H' a = some (.frz od u) ∧ D.nx σ' (upd H' a u), fun v H' => H' a = some (.frz od u) ∧ D.rt v (upd H' a u), fun σ' H' => H' a = some (.frz od u) ∧ D.bk σ' (upd H' a u), fun σ' H' => H' a = some (.frz od u) ∧ D.ct σ' (upd H' a u)⟩
theorem WS.lock (hd : H a = some u) (mu : Mut (some u)) (h : ∀ od, WS X st (lkE a u od Z) σ (upd H a (.frz od u))) : WS X st Z σ H := fun pins s I => by
  obtain ⟨od, I1⟩ := I.lock hd mu
  refine thn (h od pins s I1) fun f s1 q => ?_
  cases f with
  | next => obtain ⟨σ', H', I2, e, q⟩ := q; exact ⟨σ', _, I2.unlock e (I.nofrz hd mu), q⟩
  | brk => obtain ⟨σ', H', I2, e, q⟩ := q; exact ⟨σ', _, I2.unlock e (I.nofrz hd mu), q⟩
  | cont => obtain ⟨σ', H', I2, e, q⟩ := q; exact ⟨σ', _, I2.unlock e (I.nofrz hd mu), q⟩
  | ret v => obtain ⟨x, σ', H', I2, r, e, q⟩ := q; exact ⟨x, σ', _, I2.unlock e (I.nofrz hd mu), r, q⟩
theorem WE.lock {e : Expr} {Q : VK} (hd : H a = some u) (mu : Mut (some u)) (h : ∀ od, WE X e σ (upd H a (.frz od u)) fun v H' => H' a = some (.frz od u) ∧ Q v (upd H' a u)) : WE X e σ H Q := fun pins s I => by
  obtain ⟨od, I1⟩ := I.lock hd mu
  refine thn (h od pins s I1) fun v s1 ⟨x, H1, I2, r, e2, q⟩ => ?_
  exact ⟨x, _, I2.unlock e2 (I.nofrz hd mu), r, q⟩
end
/-! ### the walk over a dict's keys -/
def keyD : Key → D
  | .inl i => .int i
  | .inr x => .str x
def tkeyD (l : List Key) : D := .tup (l.map keyD)
def keysD : D → Option (List D)
  | .dK ks _ => some (ks.map keyD)
  | .dT ks _ => some (ks.map tkeyD)
  | _ => none
def sItK (i : Nat) : SI := fun ρ => match ρ[i]? with
  | some (some (d, _)) => (keysD d).map fun l => (l, some [i])
  | _ => none
theorem frz_idem {R : List Nat} : ∀ {ρ ρ' : DEnv} {n : Nat}, frz R n ρ = some ρ' → frz R n ρ' = some ρ'
  | [], ρ', n, h => by
    have e : ρ' = [] := by unfold frz at h; cases h; rfl
    subst e; rfl
  | x :: r, ρ', n, h => by
    unfold frz at h
    cases hr : frz R (n + 1) r with
    | none => rw [hr] at h; cases h
    | some r' =>
      rw [hr] at h
      simp only at h
      have ih := frz_idem hr
      split at h
      · rename_i hc
        split at h
        · cases h
          show frz R n _ = _
          unfold frz
          rw [ih]
          simp only [hc, if_true]
        · cases h
        · rename_i hx1 hx2
          cases h
          show frz R n _ = _
          unfold frz
          rw [ih]
          simp only [hc, if_true]
      · rename_i hc
        cases h
        show frz R n _ = _
        unfold frz
        rw [ih]
        simp only [hc, if_false, Bool.false_eq_true]
theorem reps_keyV {K : PySem.W.Frag} {H : Hp} {o : Bool} : ∀ (l : List Key), Reps K H o (l.map keyD) (l.map kV) []
  | [] => ⟨rfl, rfl⟩
  | .inl i :: l => ⟨.int i, l.map kV, [], [], rfl, rfl, ⟨rfl, rfl⟩, reps_keyV l⟩
  | .inr x :: l => ⟨.str x, l.map kV, [], [], rfl, rfl, ⟨rfl, rfl⟩, reps_keyV l⟩
theorem rep_keyV {K : PySem.W.Frag} {H : Hp} {o : Bool} (k : Key) : Rep K H o (keyD k) (kV k) [] := by
  cases k <;> exact ⟨rfl, rfl⟩
def noXO : Out → Out
  | .ex _ _ => .bad
  | o => o
section
variable {X : Cx} {C : Ct} {ρ ρ1 ρ' : DEnv} {σ : L2.St} {H H' : Hp} {Fs : Nat → List Addr} {a : Addr} {u : HO} {od : Obj} {st : Stmt} {sts : List Stmt} {Z : Ends} {W : WX} {i : Nat} {y : Str} {p pos : Pos} {tg : Expr} {is : List Nat} {g : SG} {t : SS}
theorem frz_has (h : frz [i] 0 ρ = some ρ1) {d : D} {m : Md} (hh : Has ρ i d m) : Has ρ1 i d .shr := by
  obtain ⟨hl, hgz, hgo⟩ := frz_spec h
  obtain ⟨m', h'⟩ := hgo i d m hh
  obtain ⟨m0, e0, q1, q2, q3⟩ := hgz i d m' h'
  have : m'.o ≠ true := fun z => q3 z (by simp)
  cases m' with
  | shr => exact h'
  | own => exact absurd rfl this
  | arg => exact absurd rfl this
/-- the dict of slot i, as it stands -/
theorem dict_at (E : EnvOk X.K C H ρ σ Fs) {d : D} (hh : Has ρ i d .shr) {l : List D} (hk : keysD d = some l) : ∃ (a : Addr) (u : HO), σ[i]? = some (some (.ref a)) ∧ LkU u ∧ ((H a = some u ∧ a ∈ Fs i) ∨ ∃ ob, H a = some (.frz ob u)) ∧
    ((∃ kvs : List (Key × V), u = .dK kvs ∧ l = kvs.map (fun q => keyD q.1)) ∨ ∃ kvs : List (List Key × V), u = .dT kvs ∧ l = kvs.map fun q => tkeyD q.1) := by
  obtain ⟨v, hv, r⟩ := E.rep i d _ hh
  unfold keysD at hk
  split at hk
  · rename_i ks ds
    cases hk
    obtain ⟨a, vs, G, rfl, r2, hl, h3⟩ := r
    have e : ks.map keyD = (ks.zip vs).map (fun q => keyD q.1) := by
      have z : (ks.zip vs).map (fun q => keyD q.1) = ((ks.zip vs).map (·.1)).map keyD := by rw [List.map_map]; rfl
      rw [z, zip_keys (by rw [hl.1, Reps.len r2])]
    refine ⟨a, .dK (ks.zip vs), hv, .inl ⟨_, rfl⟩, ?_, .inl ⟨_, rfl, e⟩⟩
    rcases h3 with ⟨h3, h4⟩ | ⟨_, h3, _⟩
    · exact .inl ⟨h3, by rw [h4]; exact List.mem_cons_self⟩
    · exact .inr h3
  · rename_i ks ds
    cases hk
    obtain ⟨a, vs, G, rfl, r2, hl, h3⟩ := r
    have e : ks.map tkeyD = (ks.zip vs).map (fun q => tkeyD q.1) := by
      have z : (ks.zip vs).map (fun q => tkeyD q.1) = ((ks.zip vs).map (·.1)).map tkeyD := by rw [List.map_map]; rfl
      rw [z, List.map_fst_zip (by rw [hl.1, Reps.len r2]; exact Nat.le_refl _)]
    refine ⟨a, .dT (ks.zip vs), hv, .inr ⟨_, rfl⟩, ?_, .inr ⟨_, rfl, e⟩⟩
    rcases h3 with ⟨h3, h4⟩ | ⟨_, h3, _⟩
    · exact .inl ⟨h3, by rw [h4]; exact List.mem_cons_self⟩
    · exact .inr h3
  · cases hk
/-- the walk, the dict locked -/
theorem keys_it {ob : Obj} {l : List D} (E : EnvOk X.K C H ρ σ Fs) (hN : X.N[i]? = some y) (hl : Vis X.env.scope y) (hdb : (y == ("__debug__" : Str)) = false) (hcd : (y == ("__classdict__" : Str)) = false) {d : D} {m : Md} (hh : Has ρ i d m) (hv : σ[i]? = some (some (.ref a))) (ha : H a = some (.frz ob u))
    (hk : (∃ kvs : List (Key × V), u = .dK kvs ∧ l = kvs.map (fun q => keyD q.1)) ∨ ∃ kvs : List (List Key × V), u = .dT kvs ∧ l = kvs.map fun q => tkeyD q.1) (R : It → Hp → Prop)
    (q : ∀ J H1 F, Same H H1 → (∀ b ∈ F, ∃ u, H1 b = some u ∧ Mu u) → (∀ b ∈ F, H b = none ∨ ∃ S, some [i] = some S ∧ ∃ j ∈ S, b ∈ Fs j) → ItOk X.K J (keepH H1 F) l F → R J H1) : WI X tg (.Name y p) σ H R := by
  refine WI.of (pi_keys (we X _)) ?_
  refine WE.of (pv (X := X) i hN hl hdb hcd) ?_
  refine ⟨_, hv, ?_⟩
  have kp : ∀ {H'}, Same (keepH H []) H' → H' a = some (.frz ob u) := fun s => (keepH_kp s).frz _ _ _ ha
  refine ⟨a, ob, rfl, ?_⟩
  rcases hk with ⟨kvs, rfl, rfl⟩ | ⟨kvs, rfl, rfl⟩
  · refine .inl ⟨kvs, ha, q _ H [] (Same.refl H) (fun b hb => by cases hb) (fun b hb => by cases hb) ⟨fun n H' s hn => ⟨kp s, by simpa using hn⟩, fun n H' x H2 d s hd hy => ?_, fun n H' s hn => ⟨kp s, by simpa using hn⟩⟩⟩
    obtain ⟨rfl, k, v, e, rfl⟩ := hy
    rw [List.getElem?_map, e] at hd
    cases hd
    exact ⟨Same.refl _, [], (fun b hb => by cases hb), rep_keyV k⟩
  · refine .inr ⟨kvs, ha, q _ H [] (Same.refl H) (fun b hb => by cases hb) (fun b hb => by cases hb) ⟨fun n H' s hn => ⟨kp s, by simpa using hn⟩, fun n H' x H2 d s hd hy => ?_, fun n H' s hn => ⟨kp s, by simpa using hn⟩⟩⟩
    obtain ⟨rfl, k, v, b, e, rfl, hb⟩ := hy
    rw [List.getElem?_map, e] at hd
    cases hd
    exact ⟨Same.refl _, [], (fun b hb => by cases hb), ⟨b, _, rfl, hb, reps_keyV k⟩⟩
theorem OutOk.lock {o : Out} (l : LkU u) (hc : ∀ o, C.P a = some o → o = u) (h : OutOk X.K C Z W (noXO o)) : OutOk X.K ⟨lkP C.P a (.frz od u), C.pin⟩ (lkE a u od Z) W o := by
  cases o with
  | nx ρ => exact fun H σ Fs E => let ⟨e, Fs', E', _⟩ := EnvOk.unlock (C := C) E l hc; ⟨e, h _ _ Fs' E'⟩
  | ct ρ => exact fun H σ Fs E => let ⟨e, Fs', E', _⟩ := EnvOk.unlock (C := C) E l hc; ⟨e, h _ _ Fs' E'⟩
  | bk ρ => exact fun H σ Fs E => let ⟨e, Fs', E', _⟩ := EnvOk.unlock (C := C) E l hc; ⟨e, h _ _ Fs' E'⟩
  | rt d ρ =>
    intro H σ Fs v F E r n fr
    obtain ⟨e, Fs', E', q1, q2⟩ := EnvOk.unlock (C := C) E l hc
    have s : Sw a (.frz od u) u H (upd H a u) := ⟨e, upd_same, fun b hb => upd_ne hb⟩
    obtain ⟨F', r', _, q3⟩ := Rep.un s l d v F r
    obtain rfl := q3 rfl
    refine ⟨e, h _ _ Fs' v F' E' r' n fun x hx => ⟨?_, fun j w hh => by rw [q1 j w _ hh rfl]; exact (fr x hx).2 j w hh⟩⟩
    have := (fr x hx).1
    have z : lkP C.P a (.frz od u) x = none := this
    unfold lkP at z
    split at z
    · cases z
    · exact z
  | ex x ρ => exact h.elim
  | bad => exact h.elim
def sForK (i : Nat) (g : SG) (t : SS) : SS := fun ρ => noXO (sFor (sItK i) g t ρ)
theorem noXO_ok {o : Out} (h : OutOk X.K C Z W (noXO o)) : OutOk X.K C Z W o := by
  cases o <;> first | exact h | exact h.elim
theorem dForK (hp : PassesOwn (model X.prog X.w) X.A X.env X.xe) (hc : X.calm = true) (i : Nat) (hg : PGd X tg is g) (hb : PSsd X sts t)
    (hN : X.N[i]? = some y := by rfl) (hl : Vis X.env.scope y := by first | exact Or.inl rfl | exact Or.inr (Or.inl rfl) | exact Or.inr (Or.inr rfl)) (hdb : (y == ("__debug__" : Str)) = false := by decide) (hcd : (y == ("__classdict__" : Str)) = false := by decide) (hs : ∀ x, foldedSetIterable (.Name y p) X.env x = pure x := by intro _; rfl) : PSd X (.For tg (.Name y p) sts [] pos) (sForK i g t) := by
  refine ⟨fun C W Z ρ σ H Fs tk E h => ?_⟩
  have h0 : OutOk X.K C Z W (noXO (sFor (sItK i) g t ρ)) := h
  cases hit : sItK i ρ with
  | none => unfold sFor at h0; rw [hit] at h0; exact h0.elim
  | some q =>
    obtain ⟨l, κ⟩ := q
    have hit2 := hit
    unfold sItK at hit2
    split at hit2
    · rename_i d m hd
      obtain ⟨l', hk, e⟩ := Option.map_eq_some_iff.mp hit2
      cases e
      cases hf : frzK (some [i]) ρ with
      | none => unfold sFor at h0; rw [hit] at h0; simp only [hf] at h0; exact h0.elim
      | some ρ1 =>
        have hf' : frz [i] 0 ρ = some ρ1 := hf
        have h1 : Has ρ1 i d .shr := frz_has hf' hd
        have hit1 : sItK i ρ1 = some (l, some [i]) := by unfold sItK; rw [show ρ1[i]? = some (some (d, .shr)) from h1]; simp [hk]
        have e1 : sFor (sItK i) g t ρ1 = sFor (sItK i) g t ρ := by
          unfold sFor
          rw [hit, hit1]
          simp only
          rw [hf, show frzK (some [i]) ρ1 = some ρ1 from frz_idem hf']
        have E1 := E.frz hf'
        rw [← e1] at h0
        obtain ⟨a, u, hv, lk, hd2, hks⟩ := dict_at E1 h1 hk
        rcases hd2 with ⟨ha, haF⟩ | ⟨ob, ha⟩
        · refine WS.lock ha lk.mt fun od => ?_
          have hc2 : ∀ o, C.P a = some o → o = u := fun o e => by
            have := E1.prot a o e
            rw [ha] at this
            exact (Option.some.inj this).symm
          obtain ⟨Fs', E2, sub⟩ := E1.lock (od := od) ha lk fun j e m hh ho z => by
            by_cases hij : j = i
            · subst hij
              have e3 : some (some (d, Md.shr)) = some (some (e, m)) := h1.symm.trans hh
              cases e3
              cases ho
            · exact E1.dis j i e m d _ hij hh ho h1 a z haF
          exact for_at hp hc (fun ds k R e q => by rw [hit1] at e; cases e; exact keys_it E2 hN hl hdb hcd h1 hv upd_same hks R q) hg hb tk E2 (OutOk.lock lk hc2 h0) hs
        · exact for_at hp hc (fun ds k R e q => by rw [hit1] at e; cases e; exact keys_it E1 hN hl hdb hcd h1 hv ha hks R q) hg hb tk E1 (noXO_ok h0) hs
    · cases hit2
end
/-! ### comprehensions -/
def sLcK (i : Nat) (vs : List Nat) (g : SG) (tt : ST) (te : SE) : SE := fun ρ => match frzK (some [i]) ρ with
  | some ρ' => sLc (sItK i) vs g tt te ρ'
  | none => none
theorem sLc_none {it : SI} {vs : List Nat} {g : SG} {tt : ST} {te : SE} {ρ : DEnv} {d : D} {k : Kd} (h : sLc it vs g tt te ρ = some (d, k)) : k = none := by
  unfold sLc at h
  split at h
  · split at h
    · split at h
      · cases h; rfl
      · cases h
    · cases h
  · cases h
section
variable {X : Cx} {C : Ct} {ρ : DEnv} {σ : L2.St} {H : Hp} {Fs : Nat → List Addr} {tg elt : Expr} {ifs : List Expr} {g : SG} {tt : ST} {te : SE} {is : List Nat} {scope : Scope} {own : List (Str × Nat)} {pos p : Pos} {i : Nat} {y : Str}
/-- what locks the walked dict, or finds it locked -/
theorem lcK_go {d : D} {k : Kd} (E : EnvOk X.K C H ρ σ Fs) {vs : List Nat} (h : sLcK i vs g tt te ρ = some (d, k)) : ∃ ρ1 Fs1 l e, frz [i] 0 ρ = some ρ1 ∧ EnvOk X.K C H ρ1 σ Fs1 ∧ sLc (sItK i) vs g tt te ρ1 = some (d, k) ∧ k = none ∧ sItK i ρ1 = some (l, some [i]) ∧ Has ρ1 i e .shr ∧ keysD e = some l := by
  unfold sLcK at h
  cases hf : frzK (some [i]) ρ with
  | none => rw [hf] at h; cases h
  | some ρ1 =>
    rw [hf] at h
    simp only at h
    have hf' : frz [i] 0 ρ = some ρ1 := hf
    have hk := sLc_none h
    cases hit : sItK i ρ1 with
    | none => unfold sLc at h; rw [hit] at h; cases h
    | some q =>
      obtain ⟨l, κ⟩ := q
      have hit2 := hit
      unfold sItK at hit2
      split at hit2
      · rename_i e m hd
        obtain ⟨l', hk2, e2⟩ := Option.map_eq_some_iff.mp hit2
        cases e2
        have hd1 : Has ρ1 i e .shr := by
          have := frz_has (frz_idem hf') hd
          exact this
        exact ⟨ρ1, Fs, l, e, hf', E.frz hf', h, hk, hit, hd1, hk2⟩
      · cases hit2
theorem same_lock {H H' : Hp} {a : Addr} {u : HO} {od : Obj} (ha : H a = some u) (s : Same (upd H a (.frz od u)) H') : H' a = some (.frz od u) ∧ Same H (upd H' a u) := by
  refine ⟨s a _ upd_same, fun b o e => ?_⟩
  by_cases z : b = a
  · rw [z] at e ⊢; rw [upd_same, ← e, ha]
  · rw [upd_ne z]; exact s b o (by rw [upd_ne z]; exact e)
theorem rep_lock {K : PySem.W.Frag} {H H' : Hp} {Fs Fs1 : Nat → List Addr} {a : Addr} {u : HO} {od : Obj} {d : D} {v : V} {F : List Addr} (lk : LkU u) (ha : H a = some u) (s : Same (upd H a (.frz od u)) H') (r : RepR K (upd H a (.frz od u)) H' Fs1 none d v F) : RepR K H (upd H' a u) Fs none d v F := by
  obtain ⟨r1, r2, r3⟩ := r
  have s2 : Sw a (.frz od u) u H' (upd H' a u) := ⟨(same_lock ha s).1, upd_same, fun b hb => upd_ne hb⟩
  obtain ⟨F', r', _, q3⟩ := Rep.un s2 lk d v F r1
  obtain rfl := q3 rfl
  refine ⟨r', r2, fun x hx => ?_⟩
  have := r3 x hx
  by_cases z : x = a
  · rw [z, upd_same] at this; cases this
  · rw [upd_ne z] at this; exact this
theorem dLcK (hc : X.calm = true) (hN : X.N.Nodup) (i : Nat) (ok : BlkOk X.N X.env.scope scope own) (his : ∀ i ∈ is, i ∈ own.map (·.2))
    (hg : ∀ (s : Shared) (H : Hp) (C : Addr) (cl : List (Str × Addr)) (fp : List Addr), PGd (X.blk s H scope (compEnvC scope cl C X.env) fp) tg is g) (ht : ∀ (s : Shared) (H : Hp) (C : Addr) (cl : List (Str × Addr)) (fp : List Addr), PPTs (X.blk s H scope (compEnvC scope cl C X.env) fp) ifs tt)
    (he : ∀ (s : Shared) (H : Hp) (C : Addr) (cl : List (Str × Addr)) (fp : List Addr), PP (X.blk s H scope (compEnvC scope cl C X.env) fp) elt te) (hNi : X.N[i]? = some y := by rfl) (hl : Vis X.env.scope y := by first | exact Or.inl rfl | exact Or.inr (Or.inl rfl) | exact Or.inr (Or.inr rfl)) (hdb : (y == ("__debug__" : Str)) = false := by decide) (hcd : (y == ("__classdict__" : Str)) = false := by decide) (hs : ∀ x, foldedSetIterable (.Name y p) X.env x = pure x := by intro _; rfl) :
    PP X (.ListComp elt [⟨tg, .Name y p, ifs, 0⟩] scope pos) (sLcK i (own.map (·.2)) g tt te) := by
  refine ⟨fun C ρ σ H Fs d k Q E h q => ?_⟩
  obtain ⟨ρ1, Fs1, l, e, hf, E1, h1, rfl, hit1, hh1, hk⟩ := lcK_go E h
  obtain ⟨a, u, hv, lk, hd2, hks⟩ := dict_at E1 hh1 hk
  rcases hd2 with ⟨ha, haF⟩ | ⟨ob, ha⟩
  · refine WE.lock ha lk.mt fun od => ?_
    obtain ⟨Fs', E2, sub⟩ := E1.lock (od := od) ha lk fun j e' m hh ho z => by
      by_cases hij : j = i
      · subst hij
        have e3 : some (some (e, Md.shr)) = some (some (e', m)) := hh1.symm.trans hh
        cases e3
        cases ho
      · exact E1.dis j i e' m e _ hij hh ho hh1 a z haF
    refine WE.of (pe_lc hc hN (wi X tg _) ok wga wta wea hs) ?_
    refine lc_go (fun ds k R e q => by rw [hit1] at e; cases e; exact keys_it E2 hNi hl hdb hcd hh1 hv upd_same hks R q) his hg ht he E2 h1 fun v H' F s r => ?_
    exact ⟨(same_lock ha s).1, q v _ F (same_lock ha s).2 (rep_lock lk ha s r)⟩
  · refine WE.of (pe_lc hc hN (wi X tg _) ok wga wta wea hs) ?_
    exact lc_go (fun ds k R e q => by rw [hit1] at e; cases e; exact keys_it E1 hNi hl hdb hcd hh1 hv ha hks R q) his hg ht he E1 h1 fun v H' F s r => q v H' F s ⟨r.1, r.2.1, r.2.2⟩
/-- name = [.. for .. in dict] -/
theorem dSetLcK (hc : X.calm = true) (i' : Nat) {y' : Str} {py spos : Pos} (hN : X.N.Nodup) (i : Nat) (hsw : swapsWith (.ListComp elt [⟨tg, .Name y p, ifs, 0⟩] scope pos) (some (.Name y' py)) spos.line X.env = pure true) (ok : BlkOk X.N X.env.scope scope own) (his : ∀ i ∈ is, i ∈ own.map (·.2))
    (hg : ∀ (s : Shared) (H : Hp) (C : Addr) (cl : List (Str × Addr)) (fp : List Addr), PGd (X.blk s H scope (compEnvC scope cl C X.env) fp) tg is g) (ht : ∀ (s : Shared) (H : Hp) (C : Addr) (cl : List (Str × Addr)) (fp : List Addr), PPTs (X.blk s H scope (compEnvC scope cl C X.env) fp) ifs tt)
    (he : ∀ (s : Shared) (H : Hp) (C : Addr) (cl : List (Str × Addr)) (fp : List Addr), PP (X.blk s H scope (compEnvC scope cl C X.env) fp) elt te) (hNi : X.N[i]? = some y := by rfl) (hl : Vis X.env.scope y := by first | exact Or.inl rfl | exact Or.inr (Or.inl rfl) | exact Or.inr (Or.inr rfl)) (hdb : (y == ("__debug__" : Str)) = false := by decide) (hcd : (y == ("__classdict__" : Str)) = false := by decide) (hs : ∀ x, foldedSetIterable (.Name y p) X.env x = pure x := by intro _; rfl)
    (hy : X.N[i']? = some y' := by rfl) (hyl : X.env.scope.names.lookup y' = some .local := by rfl) :
    PSd X (.Assign [.Name y' py] (.ListComp elt [⟨tg, .Name y p, ifs, 0⟩] scope pos) spos) (sAsg (sX (sLcK i (own.map (·.2)) g tt te)) (setS i')) := by
  refine ⟨fun C W Z ρ σ H Fs tk E h => ?_⟩
  unfold sAsg sX at h
  cases hl0 : sLcK i (own.map (·.2)) g tt te ρ with
  | none => rw [hl0] at h; exact h.elim
  | some q =>
    obtain ⟨d, k⟩ := q
    rw [hl0] at h
    simp only at h
    obtain ⟨ρ1, Fs1, l, e, hf, E1, h1, rfl, hit1, hh1, hk⟩ := lcK_go E hl0
    obtain ⟨a, u, hv, lk, hd2, hks⟩ := dict_at E1 hh1 hk
    have fin : ∀ v H' F, Same H H' → RepR X.K H H' Fs none d v F → Z.nx (σ.set i' (some v)) H' := fun v H' F s r => by
      cases hg' : setS i' d none ρ with
      | none => simp only [hg'] at h; exact h.elim
      | some ρ'' =>
        simp only [hg'] at h
        obtain ⟨_, Fs'', E''⟩ := setS_ok (E.same s) (((RepR.inV r E))) hg'
        exact h H' _ Fs'' E''
    rcases hd2 with ⟨ha, haF⟩ | ⟨ob, ha⟩
    · refine WS.lock ha lk.mt fun od => ?_
      obtain ⟨Fs', E2, sub⟩ := E1.lock (od := od) ha lk fun j e' m hh ho z => by
        by_cases hij : j = i
        · subst hij
          have e3 : some (some (e, Md.shr)) = some (some (e', m)) := hh1.symm.trans hh
          cases e3
          cases ho
        · exact E1.dis j i e' m e _ hij hh ho hh1 a z haF
      refine WS.of (ps_setLc hc hN hy hyl hsw (wi X tg _) ok wga wta wea hs) ?_
      refine lc_go (fun ds k R e q => by rw [hit1] at e; cases e; exact keys_it E2 hNi hl hdb hcd hh1 hv upd_same hks R q) his hg ht he E2 h1 fun v H' F s r => ?_
      exact ⟨(same_lock ha s).1, fin v _ F (same_lock ha s).2 (rep_lock lk ha s r)⟩
    · refine WS.of (ps_setLc hc hN hy hyl hsw (wi X tg _) ok wga wta wea hs) ?_
      exact lc_go (fun ds k R e q => by rw [hit1] at e; cases e; exact keys_it E1 hNi hl hdb hcd hh1 hv ha hks R q) his hg ht he E1 h1 fun v H' F s r => fin v H' F s ⟨r.1, r.2.1, r.2.2⟩
end
end DL
end DLsec35
set_option maxRecDepth 100000
noncomputable section DLsec36
/-! DL36: + of what comes, -x of what writes, a, b = .., enumerate; dicts walked, in plain functions. -/
namespace DL
open PySem PySem.Spec PyProof.Rows L2
section
variable {X : Cx}
/-- + of numbers, of texts -/
def fAddD : D → D → Option D
  | .int i, .int j => some (.int (i + j))
  | .str x, .str y => if okP (x.length + y.length ≤ sizeLine) = true then some (.str (x ++ y)) else none
  | _, _ => none
theorem oAddD : OpD X (binaryOp .Add) fAddD := by
  obtain ⟨r1, h1, q1⟩ := oAdd (X := X)
  obtain ⟨r2, h2, q2⟩ := oCat (X := X)
  refine ⟨fun v u H Q => r1 v u H Q ∨ r2 v u H Q, fun pins s σ H x y v u Q I ra rb h => ?_, fun x y z h => ?_⟩
  · rcases h with h | h
    · exact h1 pins s σ H x y v u Q I ra rb h
    · exact h2 pins s σ H x y v u Q I ra rb h
  · unfold fAddD at h
    split at h
    · rename_i i j
      obtain ⟨im, go⟩ := q1 (.int i) (.int j) z h
      exact ⟨im, fun H v u F G Q ra rb q => .inl (go H v u F G Q ra rb q)⟩
    · rename_i i j
      obtain ⟨im, go⟩ := q2 (.str i) (.str j) z h
      exact ⟨im, fun H v u F G Q ra rb q => .inr (go H v u F G Q ra rb q)⟩
    · cases h
end
section
variable {X : Cx} {C : Ct} {ρ ρ1 ρ2 : DEnv} {σ : L2.St} {H H1 H2 : Hp} {Fs Fs1 Fs2 : Nat → List Addr} {a b e : Expr} {es : List Expr} {sx : SX} {s : SE} {pos p : Pos} {K : PySem.W.Frag}
def sNegX (sx : SX) : SX := fun ρ => match sx ρ with
  | .ok (.int i) _ ρ' => .ok (.int (-i)) none ρ'
  | .ok _ _ _ => .bad
  | .ex x ρ' => .ex x ρ'
  | .bad => .bad
theorem xNeg (h : PX X a sx) : PX X (.UnaryOp .USub a pos) (sNegX sx) := by
  refine ⟨fun C W ρ σ H Fs Q tk E hs => WE.of (pe_un un_neg (we X a)) ?_⟩
  refine h.run C W ρ σ H Fs _ tk E ?_
  unfold sNegX at hs
  cases h1 : sx ρ with
  | bad => rw [h1] at hs; exact hs.elim
  | ex z ρ2 => rw [h1] at hs; exact hs
  | ok d k ρ2 =>
    rw [h1] at hs
    cases d <;> first
      | exact hs.elim
      | (rename_i i
         intro v H' F Fs' E' sh r
         have hv : v = .int i := by
           cases k with
           | none => exact r.1.1
           | some R => exact r.1.1
         exact ⟨i, hv, hs _ H' [] Fs' E' sh ⟨⟨rfl, rfl⟩, List.nodup_nil, fun a ha => by cases ha⟩⟩)
/-! ### targets in a row -/
abbrev SGs := List D → Kd → DEnv → Option DEnv
def WGs (X : Cx) (ts : List Expr) : TGs := fun vs σ H Q => ∀ (pins : List (Addr × Obj)) (s : Shared) (us : List Value), Inv X pins σ H s → Vals vs us →
    wpAny (model X.prog X.w) X.A (assignInOrder ((assignEach ts X.env).map (·.2)) us) (fun _ s' => ∃ σ' H', Inv X pins σ' H' s' ∧ Q σ' H') X.xe s
theorem wgs (ts : List Expr) : PGs X ts (WGs X ts) := ⟨fun pins s _ _ _ us _ I r h => h pins s us I r⟩
theorem WGs.of {ts : List Expr} {t : TGs} (h : PGs X ts t) {vs : List V} {Q : L2.St → Hp → Prop} (q : t vs σ H Q) : WGs X ts vs σ H Q := fun pins s us I r => h.run pins s σ H vs us Q I r q
/-- the first of these values may hold what is written, the others not -/
def RepVt (K : PySem.W.Frag) (C : Ct) (ρ : DEnv) (Fs : Nat → List Addr) (H : Hp) (k : Kd) : List D → List V → Prop
  | [], vs => vs = []
  | d :: ds, vs => ∃ v r F, vs = v :: r ∧ RepV K C ρ Fs H k d v F ∧ (imms ds = true → Reps K H true ds r [])
structure PGsd (X : Cx) (ts : List Expr) (is : List Nat) (gs : SGs) : Prop where
  run : ∀ (C : Ct) (ρ ρ' : DEnv) (σ : L2.St) (H : Hp) (Fs : Nat → List Addr) (ds : List D) (k : Kd) (vs : List V) (Q : L2.St → Hp → Prop), EnvOk X.K C H ρ σ Fs → RepVt X.K C ρ Fs H k ds vs → gs ds k ρ = some ρ' →
    (∀ σ' Fs', EnvOk X.K C H ρ' σ' Fs' → σ'.length = σ.length → (∀ j, j ∉ is → σ'[j]? = σ[j]?) → Q σ' H) → WGs X ts vs σ H Q
def gsNil : SGs := fun ds _ ρ => match ds with
  | [] => some ρ
  | _ => none
def gsCons (g : SG) (gs : SGs) : SGs := fun ds k ρ => match ds with
  | d :: r => if imms r = true then (match g d k ρ with
    | some ρ' => gs r none ρ'
    | none => none) else none
  | [] => none
theorem dgNil : PGsd X [] [] gsNil := by
  refine ⟨fun C ρ ρ' σ H Fs ds k vs Q E r h q => WGs.of pgs_nil ?_⟩
  unfold gsNil at h
  split at h
  · cases h
    exact ⟨r, q σ Fs E rfl fun j _ => rfl⟩
  · cases h
theorem reps_V {C : Ct} : ∀ {ds : List D} {vs : List V}, imms ds = true → Reps K H true ds vs [] → RepVt K C ρ Fs H none ds vs
  | [], vs, _, r => r.1
  | d :: ds, vs, im, r => by
    obtain ⟨v, ws, G1, G2, rfl, e, r1, r2⟩ := r
    obtain ⟨rfl, rfl⟩ := List.append_eq_nil_iff.mp e.symm
    exact ⟨v, ws, [], rfl, ⟨r1, List.nodup_nil, fun a ha => by cases ha⟩, fun _ => r2⟩
theorem dgCons {ts : List Expr} {t : Expr} {is is' : List Nat} {g : SG} {gs : SGs} (h1 : PGd X t is g) (h2 : PGsd X ts is' gs) (hs : (assignEach (t :: ts) X.env).map (·.2) = assign t X.env :: (assignEach ts X.env).map (·.2) := by rfl) : PGsd X (t :: ts) (is ++ is') (gsCons g gs) := by
  refine ⟨fun C ρ ρ' σ H Fs ds k vs Q E r h q => WGs.of (pgs_cons (wg t) (wgs ts) hs) ?_⟩
  unfold gsCons at h
  split at h
  · rename_i d ds
    obtain ⟨v, ws, F, rfl, rv, ri⟩ := r
    split at h
    · rename_i im
      have rr := ri im
      cases hg : g d k ρ with
      | none => rw [hg] at h; cases h
      | some ρ1 =>
        rw [hg] at h
        simp only at h
        refine ⟨v, ws, rfl, h1.run C ρ ρ1 σ H Fs d k v F _ E rv hg fun σ' Fs' E' hl hj => ?_⟩
        refine h2.run C ρ1 ρ' σ' H Fs' ds none ws Q E' (reps_V im rr) h fun σ2 Fs2 E2 hl2 hj2 => q σ2 Fs2 E2 (hl2.trans hl) fun j hn => ?_
        rw [hj2 j fun z => hn (List.mem_append_right _ z), hj j fun z => hn (List.mem_append_left _ z)]
    · cases h
  · cases h
def gsTup (n : Nat) (gs : SGs) : SG := fun d k ρ => match d with
  | .tup ds => if ds.length = n then gs ds k ρ else none
  | .cot ds => if ds.length = n then gs ds k ρ else none
  | _ => none
theorem repV_none {K : PySem.W.Frag} {ds : List D} {vs : List V} {F : List Addr} (hr : Reps K H true ds vs F) (h1 : F.Nodup) (h2 : ∀ a ∈ F, C.P a = none ∧ ∀ i e n, Has ρ i e n → a ∉ Fs i) : RepVt K C ρ Fs H none ds vs := by
  cases ds with
  | nil => exact hr.1
  | cons d ds =>
    obtain ⟨v, ws, G1, G2, rfl, rfl, r1, r2⟩ := hr
    exact ⟨v, ws, G1, rfl, ⟨r1, (List.nodup_append.mp h1).1, fun a ha => h2 a (List.mem_append_left _ ha)⟩, fun im => (Reps.im ds ws G2 im r2).2 true⟩
theorem repV_some {K : PySem.W.Frag} {R : List Nat} {ds : List D} {vs : List V} {F : List Addr} (hr : Reps K H false ds vs F) (h : ∀ a ∈ F, ∀ i e n, Has ρ i e n → n.o = true → i ∉ R → a ∉ Fs i) : RepVt K C ρ Fs H (some R) ds vs := by
  cases ds with
  | nil => exact hr.1
  | cons d ds =>
    obtain ⟨v, ws, G1, G2, rfl, rfl, r1, r2⟩ := hr
    exact ⟨v, ws, G1, rfl, ⟨r1, fun a ha => h a (List.mem_append_left _ ha)⟩, fun im => (Reps.im ds ws G2 im r2).2 true⟩
theorem dgTup {ts : List Expr} {kk n : Nat} {is : List Nat} {gs : SGs} (hc : X.calm = true) (h : PGsd X ts is gs) (hn : (assignEach ts X.env).length = n := by rfl) (hst : (assignEach ts X.env).findIdx? (·.1) = none := by rfl) : PGd X (.Tuple ts kk pos) is (gsTup n gs) := by
  refine ⟨fun C ρ ρ' σ H Fs d k v F Q E r hg q => WG.of (pg_tup hc (wgs ts) hn hst) ?_⟩
  unfold gsTup at hg
  split at hg
  · rename_i ds
    split at hg
    · rename_i hl
      cases k with
      | none =>
        obtain ⟨⟨a, vs, rfl, h2, h3⟩, n1, n2⟩ := r
        exact ⟨a, vs, rfl, SqT.of h2, by rw [Reps.len h3]; exact hl, h.run C ρ ρ' σ H Fs ds none vs Q E (repV_none h3 n1 n2) hg q⟩
      | some R =>
        obtain ⟨⟨a, vs, rfl, h2, h3⟩, n2⟩ := r
        exact ⟨a, vs, rfl, SqT.of h2, by rw [Reps.len h3]; exact hl, h.run C ρ ρ' σ H Fs ds (some R) vs Q E (repV_some h3 n2) hg q⟩
    · cases hg
  · rename_i ds
    split at hg
    · rename_i hl
      cases k with
      | none =>
        obtain ⟨⟨a, vs, rfl, h2, h3⟩, n1, n2⟩ := r
        exact ⟨a, vs, rfl, h2, by rw [Reps.len h3]; exact hl, h.run C ρ ρ' σ H Fs ds none vs Q E (repV_none h3 n1 n2) hg q⟩
      | some R =>
        obtain ⟨⟨a, vs, rfl, h2, h3⟩, n2⟩ := r
        exact ⟨a, vs, rfl, h2, by rw [Reps.len h3]; exact hl, h.run C ρ ρ' σ H Fs ds (some R) vs Q E (repV_some h3 n2) hg q⟩
    · cases hg
  · cases hg
/-! ### enumerate -/
def enumD : Nat → List D → List D
  | _, [] => []
  | n, d :: ds => .tup [.int n, d] :: enumD (n + 1) ds
theorem enumD_len : ∀ (n : Nat) (ds : List D), (enumD n ds).length = ds.length
  | _, [] => rfl
  | n, d :: ds => by rw [enumD, List.length_cons, List.length_cons, enumD_len]
theorem enumD_get : ∀ {n i : Nat} {ds : List D} {e : D}, (enumD n ds)[i]? = some e → ∃ d, ds[i]? = some d ∧ e = .tup [.int (n + i : Nat), d]
  | n, i, [], e, h => by simp [enumD] at h
  | n, 0, d :: ds, e, h => by
    have : D.tup [.int n, d] = e := by simpa [enumD] using h
    exact ⟨d, rfl, this.symm⟩
  | n, i + 1, d :: ds, e, h => by
    obtain ⟨d', h1, h2⟩ := enumD_get (n := n + 1) (i := i) (ds := ds) (by simpa [enumD] using h)
    exact ⟨d', by simpa using h1, by rw [h2, show n + 1 + i = n + (i + 1) by omega]⟩
def sEnum (s : SE) : SI := fun ρ => match s ρ with
  | some (.lst ds, k) => some (enumD 0 ds, k)
  | _ => none
theorem same_tup {H : Hp} {T : Addr} {xs : List V} (h : H T = none) : Same H (upd H T (.tup xs)) := same_new h
theorem iEnumD {ts : List Expr} {kk : Nat} {tpos : Pos} (hm : X.mg "enumerate" = none) (h : PP X e s) (hg : Gl X "enumerate" := by rfl) (hs : starEach [e] X.env = [(false, eval e X.env)] := by rfl) (he : starEach [e] X.env = (false, eval e X.env) :: starEach [] X.env := by rfl) :
    PPI X (.Tuple ts kk tpos) (.Call (.Name "enumerate" p) [e] [] pos) (sEnum s) := by
  refine ⟨fun C ρ σ H Fs ds k R E hs0 q => WI.of (pi_enum hg hm (wa X _) hs) ?_⟩
  unfold sEnum at hs0
  split at hs0
  · rename_i es k1 h1
    cases hs0
    have ha : PPA X [e] (sACons s sANil) := dACons h dANil (hs := he)
    refine ha.run C ρ σ H Fs [(_, k)] _ E (by unfold sACons sANil; rw [h1]) fun vs0 H1 Gs s1 rs => ?_
    obtain ⟨v, ws, F, Ls, rfl, rfl, r1, rs2, _⟩ := rs
    obtain ⟨rfl, rfl⟩ : ws = [] ∧ Ls = [] := rs2
    have tr : ∀ a ∈ F, ∃ u, H1 a = some u ∧ Mu u := Rep.tr _ v F r1.rep
    have hm := r1.mem
    obtain ⟨a, vs, G, rfl, hl, rfl, r2⟩ := r1.lst
    have st : ∀ H', Same (keepH H1 (a :: G)) H' → SqL X.K H' a vs ∧ Reps X.K H' false es vs G := fun H' s =>
      ⟨SqL.of (by rw [keepH_at s List.mem_cons_self hl trivial]; exact hl), reps_keep s (fun b hb => List.mem_cons_of_mem _ hb) r2.rep⟩
    have hlen : vs.length = es.length := Reps.len r2.rep
    refine ⟨a, vs, rfl, SqL.of hl, q _ H1 (a :: G) s1 tr hm ⟨fun i H' s hi => ?_, fun i H' x H2 d s hd hy => ?_, fun i H' s hi => ?_⟩⟩
    · obtain ⟨h2, r3⟩ := st H' s
      rw [enumD_len] at hi
      have hlt : i < vs.length := by omega
      exact ⟨vs, vs[i], h2, List.getElem?_eq_getElem hlt⟩
    · obtain ⟨h2, r3⟩ := st H' s
      obtain ⟨T, y, rfl, hT, rfl, hx⟩ := hy
      obtain ⟨d', hd', rfl⟩ := enumD_get hd
      obtain ⟨w, G', e1, r4, sub⟩ := Reps.get r3 hd'
      have := hx vs h2
      rw [e1] at this
      cases this
      have r5 := r4.same (same_tup (xs := [.int (i : Nat), y]) hT)
      refine ⟨same_tup hT, G', fun b hb => List.mem_cons_of_mem _ (sub.subset hb), T, _, rfl, upd_same, .int (i : Nat), [y], [], G', rfl, by simp, ⟨by simp, rfl⟩, y, [], G', [], rfl, by simp, r5, rfl, rfl⟩
    · obtain ⟨h2, r3⟩ := st H' s
      rw [enumD_len] at hi
      exact ⟨vs, h2, by omega⟩
  · cases hs0
end
/-! ### in plain functions -/
section
variable {ps : List Pt} {τ τ1 τ2 ω : Type} {XE : DEnv → Prop} {X : Out → ω → Prop} {S rest a b : SS} {m : R ω}
theorem tl_no : TL (sSeq sNo rest) ps X XE .bad := fun ρ e => trivial
def negX (m : R (D × τ)) : R (D × τ) := m.bnd fun r => match r.1 with
  | .int i => .ok (.int (-i), r.2)
  | _ => .bad
theorem xe_neg {s : SX} {m : R (D × τ)} {post : τ → List Pt} (h : Ex s ps XE m post) : Ex (sNegX s) ps XE (negX m) post := fun ρ e => by
  have q := h ρ e
  unfold negX
  cases m with
  | bad => trivial
  | ex x =>
    obtain ⟨ρ', h1, h2⟩ := q
    exact ⟨ρ', by unfold sNegX; rw [h1], h2⟩
  | ok r =>
    obtain ⟨ρ', h1, h2⟩ := q
    obtain ⟨d, t⟩ := r
    cases d <;> first
      | trivial
      | exact ⟨ρ', by unfold sNegX; rw [h1], h2⟩
/-! targets in a row -/
def Tgs {σ : Type} (g : SGs) (κ : Kd) (ps : List Pt) (tp : List D → R σ) (post : σ → List Pt) : Prop := ∀ ρ, EPs ps ρ → ∀ ds, (tp ds).post (fun t => ∃ ρ', g ds κ ρ = some ρ' ∧ EPs (post t) ρ') NoX
def tpNil : List D → R Unit
  | [] => .ok ()
  | _ => .bad
theorem tgs_nil {κ : Kd} : Tgs gsNil κ ps tpNil (fun _ => ps) := fun ρ e ds => by
  cases ds with
  | nil => exact ⟨ρ, rfl, e⟩
  | cons d ds => trivial
def tpCons {σ1 σ2 : Type} (tp : D → R σ1) (tps : List D → R σ2) : List D → R (σ1 × σ2)
  | d :: r => if imms r = true then (tp d).bnd fun t => (tps r).bnd fun s => .ok (t, s) else .bad
  | [] => .bad
theorem tgs_cons {σ1 σ2 : Type} {g : SG} {gs : SGs} {κ : Kd} {tp : D → R σ1} {tps : List D → R σ2} {post : σ1 → List Pt} {post2 : σ1 → σ2 → List Pt} (h1 : Tg g κ ps tp post) (h2 : ∀ t, Tgs gs none (post t) tps (post2 t)) : Tgs (gsCons g gs) κ ps (tpCons tp tps) (fun p => post2 p.1 p.2) := fun ρ e ds => by
  cases ds with
  | nil => trivial
  | cons d r =>
    show (if imms r = true then _ else _ : R (σ1 × σ2)).post _ _
    split
    · rename_i im
      refine post_bnd (h1 ρ e d) nox fun t ⟨ρ1, q1, e1⟩ => post_bnd (h2 t ρ1 e1 r) nox fun s ⟨ρ2, q2, e2⟩ => ⟨ρ2, ?_, e2⟩
      unfold gsCons
      simp only [im, if_true, q1, q2]
    · trivial
def tpTup {σ : Type} (n : Nat) (tps : List D → R σ) (d : D) : R σ := match d with
  | .tup ds => if ds.length = n then tps ds else .bad
  | .cot ds => if ds.length = n then tps ds else .bad
  | _ => .bad
theorem tg_tup {σ : Type} {n : Nat} {gs : SGs} {κ : Kd} {tps : List D → R σ} {post : σ → List Pt} (h : Tgs gs κ ps tps post) : Tg (gsTup n gs) κ ps (tpTup n tps) post := fun ρ e d => by
  cases d <;> first
    | trivial
    | (rename_i ds
       by_cases hl : ds.length = n
       · have := h ρ e ds
         unfold tpTup gsTup
         simp only [if_pos hl]
         exact this
       · unfold tpTup
         simp only [if_neg hl]
         trivial)
/-- stored as one's own -/
theorem tg_o {i : Nat} {p : Pt} (h : ps[i]? = some p) (v : p.na = true) : Tg (setS i) none ps .ok (fun d => ps.set i (.o d)) := fun ρ e d => ⟨_, e.setS h v, e.set (show Pt.ok (.o d) (some (d, .own)) from rfl)⟩
/-! dicts walked -/
theorem eik_k {i : Nat} {p : Pt} {d : D} (h : ps[i]? = some p) (v : p.val = some d) : Eik (sItK i) (some [i]) ps (itR keysD (.ok d)) := fun ρ e => by
  obtain ⟨m, hm⟩ := e.val h v
  refine post_of fun l hl => ?_
  show sItK i ρ = _
  unfold sItK
  rw [hm]
  simp only [hl, Option.map_some]
theorem tl_forK {σ : Type} {i : Nat} {κ : Kd} {mi : R (List D)} {g : SG} {body : SS} {post : τ → List Pt} {tp : D → R σ} {ptb : σ → τ → List Pt} {fb : σ → τ → R τ} {k : τ → R ω} (t0 : τ) (hi : Eik (sItK i) κ ps mi) (hf : frzOk κ ps = true) (hw : Wk (frzP κ ps) (post t0))
    (hg : ∀ t, Tg g (some []) (post t) tp (fun s => ptb s t)) (hb : ∀ s t, TL body (ptb s t) (XL post) (fun _ => False) (fb s t)) (hk : ∀ t, TL rest (post t) X XE (k t)) :
    TL (sSeq (sForK i g body) rest) ps X XE ((mi.bnd fun xs => forN (fun x t => (tp x).bnd fun s => fb s t) xs t0).bnd k) :=
  tl_step (P := fun t ρ' => EPs (post t) ρ') (fun ρ e => post_bnd (E' := fun x => ∃ ρ', sForK i g body ρ = .ex x ρ' ∧ XE ρ') (hi ρ e) nox fun ds eds => by
    obtain ⟨ρ1, h1, h2⟩ := e.frzK hf
    have u : sFor (sItK i) g body ρ = loopS g body ds ρ1 := by
      unfold sFor
      rw [show sItK i ρ = some (ds, κ) from eds]
      simp only [h1]
    unfold sForK
    rw [u]
    refine post_mono (loop_N hg hb ds t0 ρ1 (hw ρ1 h2)) (fun t ⟨ρ', q1, q2⟩ => ⟨ρ', by rw [q1]; rfl, q2⟩) fun x ⟨ρ', _, q⟩ => q.elim) (fun t ρ' e => hk t ρ' e)
theorem tl_forKS {σ : Type} {i : Nat} {κ : Kd} {mi : R (List D)} {g : SG} {body : SS} {post : τ → List Pt} {tp : D → R σ} {ptb : σ → τ → List Pt} {fb : σ → τ → R (Step τ ω)} {k : τ → R ω} (t0 : τ) (hi : Eik (sItK i) κ ps mi) (hf : frzOk κ ps = true) (hw : Wk (frzP κ ps) (post t0))
    (hg : ∀ t, Tg g (some []) (post t) tp (fun s => ptb s t)) (hb : ∀ s t, TL body (ptb s t) (XS post X) (fun _ => False) (fb s t)) (hk : ∀ t, TL rest (post t) X XE (k t)) :
    TL (sSeq (sForK i g body) rest) ps X XE (thenS (mi.bnd fun xs => forS (fun x t => (tp x).bnd fun s => fb s t) xs t0) k) :=
  tl_thenS (post := post) (fun ρ e => post_bnd (E' := fun x => ∃ ρ', sForK i g body ρ = .ex x ρ' ∧ XE ρ') (hi ρ e) nox fun ds eds => by
    obtain ⟨ρ1, h1, h2⟩ := e.frzK hf
    have u : sFor (sItK i) g body ρ = loopS g body ds ρ1 := by
      unfold sFor
      rw [show sItK i ρ = some (ds, κ) from eds]
      simp only [h1]
    unfold sForK
    rw [u]
    refine post_mono (loop_S hg hb ds t0 ρ1 (hw ρ1 h2)) (fun s q => ?_) fun x ⟨ρ', _, q⟩ => q.elim
    cases s with
    | nx t' => obtain ⟨ρ', q1, q2⟩ := q; exact ⟨ρ', by rw [q1]; rfl, q2⟩
    | bk t' => exact q.elim
    | rt w =>
      obtain ⟨⟨d, ρ', q1⟩, q2⟩ := q
      rw [q1] at q2 ⊢
      exact ⟨⟨d, ρ', rfl⟩, q2⟩) hk
theorem ef_lcK {σ : Type} {i : Nat} {mi : R (List D)} {vs : List Nat} {g : SG} {tp : D → R σ} {post : σ → List Pt} {tt : ST} {te : SE} {ft : σ → R Bool} {fe : σ → R D} (hf : frzOk (some [i]) ps = true)
    (hi : Eik (sItK i) (some [i]) (frzP (some [i]) ps) mi) (hg : Tg g (kOr (some [i])) (wipeP (frzP (some [i]) ps) vs) tp post) (ht : ∀ t, Et tt (post t) (ft t)) (he : ∀ t, Ef te (post t) (fe t)) :
    Ef (sLcK i vs g tt te) ps (lcD mi (fun d => (tp d).bnd ft) (fun d => (tp d).bnd fe)) := fun ρ e => by
  obtain ⟨ρ1, h1, h2⟩ := e.frzK hf
  have := ef_lc hi hg ht he ρ1 h2
  refine post_mono this (fun d h => ?_) nox
  show sLcK i vs g tt te ρ = _
  unfold sLcK
  rw [h1]
  exact h
/-! enumerate -/
def itEnum : D → Option (List D)
  | .lst ds => some (enumD 0 ds)
  | _ => none
theorem ei_enum {sa : SE} {ma : R D} (ha : Ef sa ps ma) : Ei (sEnum sa) ps (itR itEnum ma) := fun ρ e => post_bnd (ha ρ e) nox fun x ex => post_of fun z hz => by
  have ex : sa ρ = some (x, none) := ex
  show sEnum sa ρ = some (z, none)
  unfold sEnum
  rw [ex]
  cases x <;> first | (cases hz; rfl) | cases hz
theorem eik_enum {i : Nat} {p : Pt} {d : D} (h : ps[i]? = some p) (v : p.val = some d) (hd : ∀ ds, d = .lst ds → True) : Eik (sEnum (sV i)) (some [i]) ps (itR itEnum (.ok d)) := fun ρ e => by
  obtain ⟨m, hm⟩ := e.val h v
  refine post_of fun l hl => ?_
  show sEnum (sV i) ρ = _
  unfold sEnum sV
  rw [hm]
  cases d <;> first
    | (cases hl; simp only [kd, D.imm, Bool.false_eq_true, if_false])
    | cases hl
end
end DL
end DLsec36
set_option maxRecDepth 100000
noncomputable section DLsec37
/-! DL37: the same data are equal, dicts within. -/
namespace PySem.SeqAt
open AutoSeq1 (wpAny_loadPart')
open MeetsSeq MeetsSeq2 MeetsSeq3 SeqRoads2
section
variable {prog : Program} {w : World}
/-- l != b, item by item alike, from the place j on -/
theorem dl_ne_loop (p q : Addr) (xs ys : Array Value) (c1 c2 : Nat) (z1 z2 : Option Addr) (s1 s2 : Array (Option Value)) (hz : xs.size = ys.size) : ∀ (m j : Nat), xs.size - j = m →
    MeetsIn prog w (Builtin.«list.__eq__.loop» ⟨[.ref p, .ref q, rawInt j, rawInt 3], []⟩) fun A R s =>
      s.heap.get? p = some { cls := .type "list", dict := z1, data := .seq xs c1, slots := s1 } ∧ s.heap.get? q = some { cls := .type "list", dict := z2, data := .seq ys c2, slots := s2 } ∧
        (∀ n (h1 : n < xs.size) (h2 : n < ys.size), EqIn prog w A.in1 s xs[n] ys[n] true) ∧ R (.ok (.ret (.bool false))) s := by
  intro m
  induction m with
  | zero =>
    intro j hj A R s h
    obtain ⟨hp0, g0, d0, tk0, os0⟩ := s
    obtain ⟨ep, eq, he, h⟩ := h
    wp_walk using wpAny_loadPart' ep, wpAny_loadPart' eq
    rw [show xs[((j : Nat) : Int).toNat]? = none by simp; omega, show ys[((j : Nat) : Int).toNat]? = none by simp; omega]
    wp_walk using wpAny_loadPart' ep, wpAny_loadPart' eq
    show R (.ok (.ret (.bool (xs.size != ys.size)))) _
    rw [show (xs.size != ys.size) = false by simp [hz]]
    exact h
  | succ m ih =>
    intro j hj A R s h
    obtain ⟨hp0, g0, d0, tk0, os0⟩ := s
    obtain ⟨ep, eq, he, h⟩ := h
    wp_walk using wpAny_loadPart' ep, wpAny_loadPart' eq
    have l1 : j < xs.size := by omega
    have l2 : j < ys.size := by omega
    rw [show xs[((j : Nat) : Int).toNat]? = some xs[j] by simp [l1], show ys[((j : Nat) : Int).toNat]? = some ys[j] by simp [l2]]
    refine wpAny_bind (he j l1 l2 _ _ ?_)
    wp_walk
    rw [show ((j : Int) + 1) = ((j + 1 : Nat) : Int) by push_cast; rfl]
    refine ⟨plainId_quiet plain_eq_loop _, codeAny_builtin entry_eq_loop ?_⟩
    rw [Around.under_plainId plain_eq_loop _]
    exact ih (j + 1) (by omega) A R _ ⟨ep, eq, he, h⟩
theorem dl_list_ne (p q : Addr) (xs ys : Array Value) (c1 c2 : Nat) (z1 z2 : Option Addr) (s1 s2 : Array (Option Value)) (hz : xs.size = ys.size) :
    MeetsIn prog w (Builtin.«list.__ne__» ⟨[.ref p, .ref q], []⟩) fun A R s =>
      s.heap.get? p = some { cls := .type "list", dict := z1, data := .seq xs c1, slots := s1 } ∧ s.heap.get? q = some { cls := .type "list", dict := z2, data := .seq ys c2, slots := s2 } ∧
        (∀ n (h1 : n < xs.size) (h2 : n < ys.size), EqIn prog w A.in1 s xs[n] ys[n] true) ∧ R (.ok (.ret (.bool false))) s := by
  intro A R s h
  obtain ⟨hp0, g0, d0, tk0, os0⟩ := s
  obtain ⟨ep, eq, he, h⟩ := h
  have f3 := AutoSeq1.sub_list_list
  have hne : ¬ (xs.size != ys.size) = true := by simp [hz]
  wp_walk using wpAny_loadPart' ep, wpAny_loadPart' eq
  refine ⟨plainId_quiet plain_eq_loop _, codeAny_builtin entry_eq_loop ?_⟩
  rw [Around.under_plainId plain_eq_loop _]
  exact dl_ne_loop p q xs ys c1 c2 z1 z2 s1 s2 hz _ 0 rfl A R _ ⟨ep, eq, he, h⟩
theorem dl_rcNe {A : Around} {s : Shared} {E : Value → Shared → Prop} {p q : Addr} {xs ys : Array Value} {Q : Value → Shared → Prop} (hl : s.heap.IsList p xs) (hb : s.heap.IsList q ys) (hz : xs.size = ys.size) (hu : A.units < cLine)
    (he : ∀ n (h1 : n < xs.size) (h2 : n < ys.size), EqIn prog w A.in1 s xs[n] ys[n] true) (h : Q (.bool false) s) : wpAny (model prog w) A (richCompare .NotEq (.ref p) (.ref q)) Q E s := by
  obtain ⟨⟨k1, z1, e1, s1⟩, o1, rfl, c1, rfl⟩ := hl
  obtain ⟨⟨k2, z2, e2, s2⟩, o2, rfl, c2, rfl⟩ := hb
  exact wpAny_richCompare_same_room (T := "list") (op := .NotEq) ⟨_, o1, rfl⟩ ⟨_, o2, rfl⟩ F.slot_list_ne (call_meetsIn F.slot_list_ne ⟨_, o1, rfl⟩ F.entry_list_ne (F.args_list_ne_2 _ _) (dl_list_ne p q xs ys c1 c2 z1 z2 s1 s2 hz)
    ⟨o1, o2, he, show Value.bool false ≠ Value.notImplemented ∧ Q (.bool false) s from ⟨(fun x => nomatch x), h⟩⟩) hu
end
end PySem.SeqAt
namespace DL
open PySem PySem.Spec PyProof.Rows L2
mutual
/-- plain data, nested less than n -/
def gdD : Nat → D → Bool
  | _, .non => true
  | _, .bl _ => true
  | _, .int _ => true
  | _, .str _ => true
  | n + 1, .tup ds => gdDs n ds
  | n + 1, .lst ds => gdDs n ds
  | n + 1, .dK _ ds => gdDs n ds
  | _, _ => false
def gdDs : Nat → List D → Bool
  | _, [] => true
  | n, d :: ds => gdD n d && gdDs n ds
end
theorem gdDs_get : ∀ {n : Nat} {ds : List D}, gdDs n ds = true → ∀ d ∈ ds, gdD n d = true
  | n, [], h, d, hd => by cases hd
  | n, e :: ds, h, d, hd => by
    rw [gdDs, Bool.and_eq_true] at h
    rcases List.mem_cons.mp hd with rfl | hd
    · exact h.1
    · exact gdDs_get h.2 d hd
section
variable {X : Cx} {pins : List (Addr × Obj)} {σ : L2.St} {H : Hp} {s : Shared}
theorem reps_two {K : PySem.W.Frag} {o o' : Bool} : ∀ {ds : List D} {vs us : List V} {F G : List Addr}, Reps K H o ds vs F → Reps K H o' ds us G → vs.length = us.length ∧ ∀ {j : Nat} {v u : V}, vs[j]? = some v → us[j]? = some u → ∃ d ∈ ds, ∃ F' G', Rep K H o d v F' ∧ Rep K H o' d u G'
  | [], vs, us, F, G, r1, r2 => by
    obtain ⟨rfl, _⟩ := r1
    obtain ⟨rfl, _⟩ := r2
    exact ⟨rfl, fun {j v u} h => by simp at h⟩
  | d :: ds, vs, us, F, G, r1, r2 => by
    obtain ⟨v, r, G1, G2, rfl, _, h3, h4⟩ := r1
    obtain ⟨u, q, K1, K2, rfl, _, k3, k4⟩ := r2
    obtain ⟨hl, hs⟩ := reps_two h4 k4
    refine ⟨by simp [hl], fun {j v' u'} e1 e2 => ?_⟩
    cases j with
    | zero =>
      have e1 : v = v' := by simpa using e1
      have e2 : u = u' := by simpa using e2
      subst e1 e2
      exact ⟨d, List.mem_cons_self, _, _, h3, k3⟩
    | succ j =>
      obtain ⟨e, he, q⟩ := hs (j := j) (by simpa using e1) (by simpa using e2)
      exact ⟨e, List.mem_cons_of_mem _ he, q⟩
theorem all_true (n : Nat) : ((List.range n).all fun _ => true) = true := List.all_eq_true.mpr fun _ _ => rfl
theorem vals_at {vs : List V} {us : List Value} (h : Vals vs us) {j : Nat} (hj : j < us.length) : ∃ v, vs[j]? = some v ∧ RelV v us[j] := by
  have hl : vs.length = us.length := h.length
  have hj' : j < vs.length := by omega
  refine ⟨vs[j], List.getElem?_eq_getElem hj', ?_⟩
  induction h generalizing j with
  | nil => simp at hj
  | @cons a b as bs r t ih =>
    cases j with
    | zero => exact r
    | succ j => exact ih (by simpa using hj) t.length (by simpa using hj')
/-- items that are the same data -/
theorem items_same {o o' : Bool} {ds : List D} {vs us : List V} {F G : List Addr} {A : Around} (r1 : Reps X.K H o ds vs F) (r2 : Reps X.K H o' ds us G)
    (ih : ∀ d ∈ ds, ∀ (v u : V) (F G : List Addr) (v' u' : Value), Rep X.K H o d v F → Rep X.K H o' d u G → RelV v v' → RelV u u' → SeqAt.EqIn X.prog X.w A s v' u' true) {vs' us' : List Value} (h1 : Vals vs vs') (h2 : Vals us us') :
    vs'.toArray.size = us'.toArray.size ∧ ∀ j (l1 : j < vs'.toArray.size) (l2 : j < us'.toArray.size), SeqAt.EqIn X.prog X.w A s vs'.toArray[j] us'.toArray[j] true := by
  obtain ⟨hl, hs⟩ := reps_two r1 r2
  refine ⟨by rw [List.size_toArray, List.size_toArray, ← h1.length, ← h2.length]; exact hl, fun j l1 l2 => ?_⟩
  obtain ⟨v, e1, q1⟩ := vals_at h1 (by simpa using l1)
  obtain ⟨u, e2, q2⟩ := vals_at h2 (by simpa using l2)
  obtain ⟨d, hd, F', G', r3, r4⟩ := hs e1 e2
  simpa using ih d hd v u F' G' _ _ r3 r4 q1 q2
theorem rep_same (I : Inv X pins σ H s) {o o' : Bool} : ∀ (n : Nat) (A : Around) (d : D) (v u : V) (F G : List Addr) (v' u' : Value), gdD n d = true → A.units + n < cLine → Rep X.K H o d v F → Rep X.K H o' d u G → RelV v v' → RelV u u' → SeqAt.EqIn X.prog X.w A s v' u' true
  | n, A, .non, v, u, F, G, v', u', _, _, r1, r2, q1, q2 => by
    obtain ⟨rfl, _⟩ := r1; obtain ⟨rfl, _⟩ := r2
    exact (eqAt_same q1 q2 rfl).inModel _ _
  | n, A, .bl b, v, u, F, G, v', u', _, _, r1, r2, q1, q2 => by
    obtain ⟨rfl, _⟩ := r1; obtain ⟨rfl, _⟩ := r2
    exact (eqAt_same q1 q2 rfl).inModel _ _
  | n, A, .int b, v, u, F, G, v', u', _, _, r1, r2, q1, q2 => by
    obtain ⟨rfl, _⟩ := r1; obtain ⟨rfl, _⟩ := r2
    exact (eqAt_same q1 q2 rfl).inModel _ _
  | n, A, .str b, v, u, F, G, v', u', _, _, r1, r2, q1, q2 => by
    obtain ⟨rfl, _⟩ := r1; obtain ⟨rfl, _⟩ := r2
    exact (eqAt_same q1 q2 rfl).inModel _ _
  | n + 1, A, .tup ds, v, u, F, G, v', u', h, hu, r1, r2, q1, q2 => by
    rw [gdD] at h
    obtain ⟨a, vs, rfl, ha, ra⟩ := r1
    obtain ⟨b, us, rfl, hb, rb⟩ := r2
    cases (show v' = Value.ref a from q1)
    cases (show u' = Value.ref b from q2)
    by_cases e : a = b
    · subst e; exact (SeqAt.EqAt.same _).inModel _ _
    · obtain ⟨xs, x1, x2, _⟩ := I.tuple (SqT.of ha)
      obtain ⟨ys, y1, y2, _⟩ := I.tuple (SqT.of hb)
      obtain ⟨hz, hs⟩ := items_same (A := A.in1) ra rb (fun d hd v u F G v' u' w1 w2 w3 w4 => rep_same I n A.in1 d v u F G v' u' (gdDs_get h d hd) (by show A.units + 1 + n < cLine; omega) w1 w2 w3 w4) x1 y1
      refine SeqAt.EqIn.of_refs e fun E Q hq => SeqAt.rcIn_tuples (e := fun _ => true) x2 y2 (by omega) hs ?_
      rw [all_true, hz]
      simpa using hq
  | n + 1, A, .lst ds, v, u, F, G, v', u', h, hu, r1, r2, q1, q2 => by
    rw [gdD] at h
    obtain ⟨a, vs, _, rfl, ra, ha, _⟩ := r1
    obtain ⟨b, us, _, rfl, rb, hb, _⟩ := r2
    cases (show v' = Value.ref a from q1)
    cases (show u' = Value.ref b from q2)
    by_cases e : a = b
    · subst e; exact (SeqAt.EqAt.same _).inModel _ _
    · obtain ⟨xs, x1, x2, _⟩ := I.list (SqL.of ha)
      obtain ⟨ys, y1, y2, _⟩ := I.list (SqL.of hb)
      obtain ⟨hz, hs⟩ := items_same (A := A.in1) ra rb (fun d hd v u F G v' u' w1 w2 w3 w4 => rep_same I n A.in1 d v u F G v' u' (gdDs_get h d hd) (by show A.units + 1 + n < cLine; omega) w1 w2 w3 w4) x1 y1
      refine SeqAt.EqIn.of_refs e fun E Q hq => SeqAt.rcIn_lists (e := fun _ => true) x2.isList y2.isList hz (by omega) hs ?_
      rw [all_true]
      exact hq
  | n + 1, A, .dK ks ds, v, u, F, G, v', u', h, hu, r1, r2, q1, q2 => by
    rw [gdD] at h
    obtain ⟨a, vs, Ga, rfl, ra, hla, ha⟩ := r1
    obtain ⟨b, us, Gb, rfl, rb, hlb, hb⟩ := r2
    cases (show v' = Value.ref a from q1)
    cases (show u' = Value.ref b from q2)
    have ha : Rd H a (.dK (ks.zip vs)) := by
      rcases ha with ⟨h, _⟩ | ⟨_, ⟨ob, h⟩, _⟩
      · exact .inl h
      · exact .inr ⟨ob, h⟩
    have hb : Rd H b (.dK (ks.zip us)) := by
      rcases hb with ⟨h, _⟩ | ⟨_, ⟨ob, h⟩, _⟩
      · exact .inl h
      · exact .inr ⟨ob, h⟩
    by_cases e : a = b
    · subst e; exact (SeqAt.EqAt.same _).inModel _ _
    · obtain ⟨_, ya, va, rva, da⟩ := dk_rd I.hok ha
      obtain ⟨_, yb, vb, rvb, db⟩ := dk_rd I.hok hb
      obtain ⟨hl, hs⟩ := reps_two ra rb
      have hlen : va.length = vb.length := by
        rw [← rva.length, ← rvb.length, List.length_zip, List.length_zip, hl]
      refine SeqAt.EqIn.of_refs e fun E Q hq => PySem.W.rcP_dicts (knd := mixKind X.prog X.w) (r := true) ya yb da db (by omega) (fun _ => ?_) E Q ?_
      · refine hits_run (F := fun x y => ∃ d ∈ ds, ∃ F' G', Rep X.K H o d x F' ∧ Rep X.K H o' d y G') (fun x y v u ⟨d, hd, F', G', w1, w2⟩ w3 w4 => rep_same I n A.in1 d x y F' G' v u (gdDs_get h d hd) (by show A.units + 1 + n < cLine; omega) w1 w2 w3 w4) rvb rva ?_
        intro p hp
        obtain ⟨j, hj⟩ := List.getElem?_of_mem hp
        rw [List.getElem?_zip_eq_some] at hj
        have hju : j < us.length := by
          rw [← hl]
          exact (List.getElem?_eq_some_iff.mp hj.2).1
        have e2 := List.getElem?_eq_getElem hju
        refine ⟨us[j], ?_, hs hj.2 e2⟩
        have hps : posK ks p.1 = some j := by
          obtain ⟨m, hm⟩ := posK_mem (List.mem_of_getElem? hj.1)
          have := posK_at hm
          have hlt : j < ks.length := (List.getElem?_eq_some_iff.mp hj.1).1
          rw [hm, (List.getElem?_inj hlt hla.2).mp (hj.1.trans this.symm)]
        rw [valV_zip, hps, Option.bind_some, e2]
      · rw [hlen]
        simpa using hq
  | 0, _, .tup _, _, _, _, _, _, _, h, _, _, _, _, _ => by simp [gdD] at h
  | 0, _, .lst _, _, _, _, _, _, _, h, _, _, _, _, _ => by simp [gdD] at h
  | 0, _, .dK _ _, _, _, _, _, _, _, h, _, _, _, _, _ => by simp [gdD] at h
  | _, _, .rol _, _, _, _, _, _, _, h, _, _, _, _, _ => by simp [gdD] at h
  | _, _, .cot _, _, _, _, _, _, _, h, _, _, _, _, _ => by simp [gdD] at h
  | _, _, .dT _ _, _, _, _, _, _, _, h, _, _, _, _, _ => by simp [gdD] at h
  | _, _, .exc _ _ _, _, _, _, _, _, _, h, _, _, _, _, _ => by simp [gdD] at h
  | _, _, .opq _, _, _, _, _, _, _, h, _, _, _, _, _ => by simp [gdD] at h
/-- lists of the same data: == -/
def fEqV : D → D → Option D := fun x y => match x, y with
  | .lst ds, .lst es => if okP (ds = es ∧ gdDs 50 ds = true) = true then some (.bl true) else none
  | _, _ => none
def fNeV : D → D → Option D := fun x y => match x, y with
  | .lst ds, .lst es => if okP (ds = es ∧ gdDs 50 ds = true) = true then some (.bl false) else none
  | _, _ => none
theorem oNeV (hu : X.A.units + 64 < cLine) : OpD X (compareOp .NotEq) fNeV := by
  refine ⟨fun v u H Q => ∃ ds a b vs us F G, v = .ref a ∧ u = .ref b ∧ H a = some (.lst vs) ∧ H b = some (.lst us) ∧ gdDs 50 ds = true ∧ Reps X.K H false ds vs F ∧ Reps X.K H false ds us G ∧ Q (.bl false) H, fun pins s σ H x y v u Q I rx ry h => ?_, fun x y z h => ?_⟩
  · obtain ⟨ds, a, b, vs, us, F, G, rfl, rfl, ha, hb, hg, r1, r2, q⟩ := h
    obtain rfl : v = Value.ref a := rx
    obtain rfl : u = Value.ref b := ry
    obtain ⟨xs, x1, x2, _⟩ := I.list (SqL.of ha)
    obtain ⟨ys, y1, y2, _⟩ := I.list (SqL.of hb)
    obtain ⟨hz, hs⟩ := items_same (A := X.A.in1) r1 r2 (fun d hd v u F G v' u' w1 w2 w3 w4 => rep_same I 50 X.A.in1 d v u F G v' u' (gdDs_get hg d hd) (by show X.A.units + 1 + 50 < cLine; omega) w1 w2 w3 w4) x1 y1
    exact SeqAt.dl_rcNe x2.isList y2.isList hz (by omega) hs ⟨.bl false, H, I, rfl, q⟩
  · unfold fNeV at h
    split at h
    · split at h
      · rename_i ds es hk
        obtain ⟨rfl, hg⟩ := okP_iff.mp hk
        cases h
        refine ⟨rfl, fun H v u F G Q r1 r2 q => ?_⟩
        obtain ⟨a, vs, _, rfl, ra, ha, _⟩ := r1
        obtain ⟨b, us, _, rfl, rb, hb, _⟩ := r2
        exact ⟨ds, a, b, vs, us, _, _, rfl, rfl, ha, hb, hg, ra, rb, q _ H (Same.refl H) ⟨rfl, rfl⟩⟩
      · cases h
    · cases h
theorem oEqV (hu : X.A.units + 64 < cLine) : OpD X (compareOp .Eq) fEqV := by
  refine ⟨fun v u H Q => ∃ ds a b vs us F G, v = .ref a ∧ u = .ref b ∧ H a = some (.lst vs) ∧ H b = some (.lst us) ∧ gdDs 50 ds = true ∧ Reps X.K H false ds vs F ∧ Reps X.K H false ds us G ∧ Q (.bl true) H, fun pins s σ H x y v u Q I rx ry h => ?_, fun x y z h => ?_⟩
  · obtain ⟨ds, a, b, vs, us, F, G, rfl, rfl, ha, hb, hg, r1, r2, q⟩ := h
    obtain rfl : v = Value.ref a := rx
    obtain rfl : u = Value.ref b := ry
    obtain ⟨xs, x1, x2, _⟩ := I.list (SqL.of ha)
    obtain ⟨ys, y1, y2, _⟩ := I.list (SqL.of hb)
    obtain ⟨hz, hs⟩ := items_same (A := X.A.in1) r1 r2 (fun d hd v u F G v' u' w1 w2 w3 w4 => rep_same I 50 X.A.in1 d v u F G v' u' (gdDs_get hg d hd) (by show X.A.units + 1 + 50 < cLine; omega) w1 w2 w3 w4) x1 y1
    refine SeqAt.rcIn_lists (e := fun _ => true) x2.isList y2.isList hz (by omega) hs ?_
    rw [all_true]
    exact ⟨.bl true, H, I, rfl, q⟩
  · unfold fEqV at h
    split at h
    · split at h
      · rename_i ds es hk
        obtain ⟨rfl, hg⟩ := okP_iff.mp hk
        cases h
        refine ⟨rfl, fun H v u F G Q r1 r2 q => ?_⟩
        obtain ⟨a, vs, _, rfl, ra, ha, _⟩ := r1
        obtain ⟨b, us, _, rfl, rb, hb, _⟩ := r2
        exact ⟨ds, a, b, vs, us, _, _, rfl, rfl, ha, hb, hg, ra, rb, q _ H (Same.refl H) ⟨rfl, rfl⟩⟩
      · cases h
    · cases h
end
end DL
end DLsec37
set_option maxRecDepth 100000
noncomputable section DLsec38
/-! DL38: reckoning with dicts: rows of keys and values. -/
namespace DL
open PySem PySem.Spec PyProof.Rows L2
section
variable {α β : Type} [DecidableEq α]
def aget : List (α × β) → α → Option β
  | [], _ => none
  | (a, b) :: r, k => if a = k then some b else aget r k
def aput : List (α × β) → α → β → List (α × β)
  | [], k, v => [(k, v)]
  | (a, b) :: r, k, v => if a = k then (a, v) :: r else (a, b) :: aput r k v
def adel : List (α × β) → α → List (α × β)
  | [], _ => []
  | (a, b) :: r, k => if a = k then r else (a, b) :: adel r k
abbrev akeys (m : List (α × β)) : List α := m.map (·.1)
theorem aget_put {m : List (α × β)} {k j : α} {v : β} : aget (aput m k v) j = if k = j then some v else aget m j := by
  induction m with
  | nil => simp [aput, aget]
  | cons p r ih =>
    obtain ⟨a, b⟩ := p
    unfold aput
    by_cases h : a = k
    · subst h
      rw [if_pos rfl]
      by_cases hj : a = j <;> simp [aget, hj]
    · rw [if_neg h, aget, ih, aget]
      by_cases hj : a = j
      · subst hj
        simp [Ne.symm h]
      · simp [hj]
theorem aget_none {m : List (α × β)} {k : α} : aget m k = none ↔ k ∉ akeys m := by
  induction m with
  | nil => simp [aget]
  | cons p r ih =>
    obtain ⟨a, b⟩ := p
    unfold aget
    by_cases h : a = k
    · subst h; simp
    · rw [if_neg h, ih]; simp [Ne.symm h]
theorem aget_some {m : List (α × β)} {k : α} (h : k ∈ akeys m) : ∃ v, aget m k = some v := by
  cases e : aget m k with
  | none => exact absurd h (aget_none.mp e)
  | some v => exact ⟨v, rfl⟩
theorem aget_mem {m : List (α × β)} {k : α} {v : β} (h : aget m k = some v) : (k, v) ∈ m := by
  induction m with
  | nil => cases h
  | cons p r ih =>
    obtain ⟨a, b⟩ := p
    unfold aget at h
    split at h
    · cases h; rename_i e; subst e; exact List.mem_cons_self
    · exact List.mem_cons_of_mem _ (ih h)
theorem aget_of_mem {m : List (α × β)} {k : α} {v : β} (nd : (akeys m).Nodup) (h : (k, v) ∈ m) : aget m k = some v := by
  induction m with
  | nil => cases h
  | cons p r ih =>
    obtain ⟨a, b⟩ := p
    have nd' := List.nodup_cons.mp nd
    unfold aget
    rcases List.mem_cons.mp h with h | h
    · cases h; simp
    · rw [if_neg fun e => nd'.1 (by rw [e]; exact List.mem_map.mpr ⟨(k, v), h, rfl⟩)]
      exact ih nd'.2 h
theorem akeys_put {m : List (α × β)} {k : α} {v : β} : akeys (aput m k v) = if k ∈ akeys m then akeys m else akeys m ++ [k] := by
  induction m with
  | nil => simp [aput]
  | cons p r ih =>
    obtain ⟨a, b⟩ := p
    unfold aput
    by_cases h : a = k
    · subst h; simp
    · rw [if_neg h]
      show a :: akeys (aput r k v) = _
      rw [ih]
      by_cases hk : k ∈ akeys r
      · simp [hk]
      · have : k ∉ akeys ((a, b) :: r) := by simp [Ne.symm h, hk]
        rw [if_neg hk, if_neg this]
        rfl
theorem aput_nodup {m : List (α × β)} {k : α} {v : β} (nd : (akeys m).Nodup) : (akeys (aput m k v)).Nodup := by
  rw [akeys_put]
  split
  · exact nd
  · rename_i h
    exact List.nodup_append.mpr ⟨nd, by simp, fun x hx y hy => by
      rw [List.mem_singleton] at hy
      subst hy
      exact fun e => h (e ▸ hx)⟩
theorem aput_len {m : List (α × β)} {k : α} {v : β} : (aput m k v).length ≤ m.length + 1 := by
  have := congrArg List.length (akeys_put (m := m) (k := k) (v := v))
  rw [List.length_map] at this
  rw [this]
  split <;> simp
theorem mem_aput {m : List (α × β)} {k : α} {v : β} {p : α × β} (h : p ∈ aput m k v) : p ∈ m ∨ p = (k, v) := by
  induction m with
  | nil => exact .inr (by simpa [aput] using h)
  | cons q r ih =>
    obtain ⟨a, b⟩ := q
    unfold aput at h
    split at h
    · rename_i e
      rcases List.mem_cons.mp h with h | h
      · rw [e] at h; exact .inr h
      · exact .inl (List.mem_cons_of_mem _ h)
    · rcases List.mem_cons.mp h with h | h
      · exact .inl (by rw [h]; exact List.mem_cons_self)
      · exact (ih h).imp (List.mem_cons_of_mem _) id
theorem aput_new {m : List (α × β)} {k : α} {v : β} (h : k ∉ akeys m) : aput m k v = m ++ [(k, v)] := by
  induction m with
  | nil => rfl
  | cons q r ih =>
    obtain ⟨a, b⟩ := q
    have h1 : a ≠ k := fun e => h (by simp [e])
    rw [aput, if_neg h1, ih (fun z => h (List.mem_cons_of_mem _ z))]
    rfl
theorem adel_put_new {m : List (α × β)} {k : α} {v : β} (h : k ∉ akeys m) : adel (m ++ [(k, v)]) k = m := by
  induction m with
  | nil => simp [adel]
  | cons q r ih =>
    obtain ⟨a, b⟩ := q
    have h1 : a ≠ k := fun e => h (by simp [e])
    rw [List.cons_append, adel, if_neg h1, ih (fun z => h (List.mem_cons_of_mem _ z))]
/-! as keys and values of data -/
variable {κ : Type} [DecidableEq κ] {e : α → κ} {f : β → D}
def InjE (e : α → κ) : Prop := ∀ a b, e a = e b → a = b
theorem posK_map (he : InjE e) : ∀ (m : List (α × β)) (k : α), lkD (m.map fun p => e p.1) (m.map fun p => f p.2) (e k) = (aget m k).map f
  | [], k => rfl
  | (a, b) :: r, k => by
    unfold lkD
    rw [List.map_cons, List.map_cons, posK, aget]
    by_cases h : a = k
    · subst h; simp
    · rw [if_neg fun z => h (he _ _ z), if_neg h, ← posK_map he r k]
      unfold lkD
      cases posK (r.map fun p => e p.1) (e k) <;> simp
theorem putL_map (he : InjE e) : ∀ (m : List (α × β)) (k : α) (v : β), putL (m.map fun p => e p.1) (m.map fun p => f p.2) (e k) (f v) = ((aput m k v).map (fun p => e p.1), (aput m k v).map fun p => f p.2)
  | [], k, v => rfl
  | (a, b) :: r, k, v => by
    have ih := putL_map he r k v
    unfold putL at ih ⊢
    rw [List.map_cons, List.map_cons, posK, aput]
    by_cases h : a = k
    · subst h; simp
    · rw [if_neg fun z => h (he _ _ z), if_neg h]
      cases hp : posK (r.map fun p => e p.1) (e k) with
      | none =>
        rw [hp] at ih
        simp only [Option.map_none, List.cons_append, List.map_cons]
        have := Prod.mk.inj ih
        rw [this.1, this.2]
      | some n =>
        rw [hp] at ih
        simp only [Option.map_some, List.set_cons_succ, List.map_cons]
        have := Prod.mk.inj ih
        rw [this.2, ← this.1]
theorem del_map (he : InjE e) : ∀ (m : List (α × β)) (k : α), match posK (m.map fun p => e p.1) (e k) with
    | none => k ∉ akeys m
    | some n => (aget m k).map f = (m.map fun p => f p.2)[n]? ∧ (m.map fun p => e p.1).eraseIdx n = (adel m k).map (fun p => e p.1) ∧ (m.map fun p => f p.2).eraseIdx n = (adel m k).map fun p => f p.2
  | [], k => by simp [posK]
  | (a, b) :: r, k => by
    have ih := del_map he r k
    rw [List.map_cons, posK]
    by_cases h : a = k
    · subst h; simp [adel, aget]
    · rw [if_neg fun z => h (he _ _ z)]
      cases hp : posK (r.map fun p => e p.1) (e k) with
      | none => rw [hp] at ih; simp only [Option.map_none]; simpa [Ne.symm h] using ih
      | some n =>
        rw [hp] at ih
        simp only [Option.map_some, List.map_cons, List.eraseIdx_cons_succ, adel, if_neg h, aget, List.getElem?_cons_succ]
        exact ⟨ih.1, by rw [ih.2.1], by rw [ih.2.2]⟩
end
/-! dicts by numbers, by texts -/
def dI {β : Type} (f : β → D) (m : List (Int × β)) : D := .dK (m.map fun p => .inl p.1) (m.map fun p => f p.2)
def dS {β : Type} (f : β → D) (m : List (Str × β)) : D := .dK (m.map fun p => .inr p.1) (m.map fun p => f p.2)
theorem injI : InjE (Sum.inl : Int → Key) := fun a b h => by cases h; rfl
theorem injS : InjE (Sum.inr : Str → Key) := fun a b h => by cases h; rfl
section
variable {β : Type} {f : β → D} {m : List (Int × β)} {ms : List (Str × β)} {k : Int} {x : Str} {v : β}
theorem vGetI (h : aget m k = some v) : dgetD (dI f m) (.int k) = some (f v) := by
  unfold dgetD dI getD' D.key
  simp only [Option.map_some, posK_map (e := (Sum.inl : Int → Key)) injI, h]
theorem vGetS (h : aget ms x = some v) : dgetD (dS f ms) (.str x) = some (f v) := by
  unfold dgetD dS getD' D.key
  simp only [Option.map_some, posK_map (e := (Sum.inr : Str → Key)) injS, h]
theorem vGet2I {d : D} : dget2D (dI f m) (.int k) d = some (((aget m k).map f).getD d) := by
  unfold dget2D dI getD' D.key
  simp only [Option.map_some, posK_map (e := (Sum.inl : Int → Key)) injI]
  cases aget m k <;> rfl
theorem vGet2S {d : D} : dget2D (dS f ms) (.str x) d = some (((aget ms x).map f).getD d) := by
  unfold dget2D dS getD' D.key
  simp only [Option.map_some, posK_map (e := (Sum.inr : Str → Key)) injS]
  cases aget ms x <;> rfl
theorem vInI {neg : Bool} : fInD neg (.int k) (dI f m) = some (.bl (if neg then !(aget m k).isSome else (aget m k).isSome)) := by
  unfold fInD dI getD' D.key
  simp only [Option.map_some, posK_map (e := (Sum.inl : Int → Key)) injI, Option.isSome_map]
theorem vInS {neg : Bool} : fInD neg (.str x) (dS f ms) = some (.bl (if neg then !(aget ms x).isSome else (aget ms x).isSome)) := by
  unfold fInD dS getD' D.key
  simp only [Option.map_some, posK_map (e := (Sum.inr : Str → Key)) injS, Option.isSome_map]
theorem vInIS {neg : Bool} {i : Int} : fInD neg (.int i) (dS f ms) = some (.bl neg) := by
  have : lkD (ms.map fun p => (Sum.inr p.1 : Key)) (ms.map fun p => f p.2) (.inl i) = none := by
    unfold lkD
    have : posK (ms.map fun p => (Sum.inr p.1 : Key)) (.inl i) = none := by
      induction ms with
      | nil => rfl
      | cons p r ih => rw [List.map_cons, posK, if_neg (by intro h; cases h), ih]; rfl
    rw [this]; rfl
  unfold fInD dS getD' D.key
  simp only [Option.map_some, this, Option.isSome_none, Bool.not_false, Bool.if_true_left, Bool.if_false_right]
  cases neg <;> rfl
theorem vLenDI : gLenD [dI f m] = some (.int m.length) := by unfold gLenD dI; simp
theorem vLenDS : gLenD [dS f ms] = some (.int ms.length) := by unfold gLenD dS; simp
theorem vDictI : dictD (dI f m) = some (dI f m) := rfl
theorem vDictS : dictD (dS f ms) = some (dS f ms) := rfl
theorem vKeysI : keysD (dI f m) = some ((akeys m).map D.int) := by unfold keysD dI; simp [keyD]
theorem vKeysS : keysD (dS f ms) = some ((akeys ms).map D.str) := by unfold keysD dS; simp [keyD]
theorem vItK {d : D} {l : List D} (h : keysD d = some l) : itR keysD (R.ok d) = R.ok l := by unfold itR; rw [bnd_ok, h]; rfl
theorem vIsiD {T : Ty} {ks : List Key} {ds : List D} : isiD T (.dK ks ds) = some (.bl (match T with | .dict => true | _ => false)) := by cases T <;> rfl
theorem vIsiDI : isiD .dict (dI f m) = some (.bl true) := rfl
theorem vIsiDS : isiD .dict (dS f ms) = some (.bl true) := rfl
theorem vals_dI : (dI f m).vals = m.map fun p => f p.2 := rfl
theorem vals_dS : (dS f ms).vals = ms.map fun p => f p.2 := rfl
theorem dvR_ok {d : D} (h : imms d.vals = true) : dvR (R.ok d) = R.ok d := by unfold dvR; rw [bnd_ok, if_pos h]
theorem sc_maps {α : Type} {g : α → D} (hg : ∀ a, ∃ w, (g a).sc = some w) (l : List α) : scD (l.map g) := fun d hd => by
  obtain ⟨a, _, rfl⟩ := List.mem_map.mp hd
  exact hg a
theorem vNeKI (hf : ∀ b, ∃ w, (f b).sc = some w) : fNeK (dI f m) (dI f m) = some (.bl false) := by
  unfold fNeK dI
  simp only
  rw [if_pos]
  exact okP_iff.mpr ⟨sc_maps (g := fun p : Int × β => f p.2) (fun p => hf p.2) m, .inl ⟨rfl, rfl⟩⟩
theorem vNeKS (hf : ∀ b, ∃ w, (f b).sc = some w) : fNeK (dS f ms) (dS f ms) = some (.bl false) := by
  unfold fNeK dS
  simp only
  rw [if_pos]
  exact okP_iff.mpr ⟨sc_maps (g := fun p : Str × β => f p.2) (fun p => hf p.2) ms, .inl ⟨rfl, rfl⟩⟩
theorem vEqKI (hf : ∀ b, ∃ w, (f b).sc = some w) : fEqK (dI f m) (dI f m) = some (.bl true) := by
  unfold fEqK dI
  simp only
  rw [if_pos]
  exact okP_iff.mpr ⟨sc_maps (g := fun p : Int × β => f p.2) (fun p => hf p.2) m, .inl ⟨rfl, rfl⟩⟩
theorem vEqKS (hf : ∀ b, ∃ w, (f b).sc = some w) : fEqK (dS f ms) (dS f ms) = some (.bl true) := by
  unfold fEqK dS
  simp only
  rw [if_pos]
  exact okP_iff.mpr ⟨sc_maps (g := fun p : Str × β => f p.2) (fun p => hf p.2) ms, .inl ⟨rfl, rfl⟩⟩
theorem sc_int (i : Int) : ∃ w, (D.int i).sc = some w := ⟨_, rfl⟩
theorem sortIK_dI (h : m.length < 64) : sortIK (dI f m) = some (.lst ((sortI (akeys m)).map D.int)) := by
  unfold sortIK dI
  simp only
  have : intKeys (m.map fun p => (Sum.inl p.1 : Key)) = some (akeys m) := by
    rw [show (m.map fun p => (Sum.inl p.1 : Key)) = (akeys m).map Sum.inl by rw [List.map_map]; rfl]
    exact intKeys_of _
  rw [this]
  simp only
  rw [if_pos (okP_iff.mpr (by rw [List.length_map]; exact h))]
theorem sortSK_dS (h : ms.length < 64) : sortSK (dS f ms) = some (.lst ((sortT (akeys ms)).map D.str)) := by
  unfold sortSK dS
  simp only
  have : strKeys (ms.map fun p => (Sum.inr p.1 : Key)) = some (akeys ms) := by
    rw [show (ms.map fun p => (Sum.inr p.1 : Key)) = (akeys ms).map Sum.inr by rw [List.map_map]; rfl]
    exact strKeys_of _
  rw [this]
  simp only
  rw [if_pos (okP_iff.mpr (by rw [List.length_map]; exact h))]
end
section
variable {β : Type} {f : β → D} {m : List (Int × β)} {ms : List (Str × β)} {k : Int} {x : Str} {v : β}
theorem vPutI (h : m.length < 16777216) : putR (dI f m) (R.ok (.int k)) (f v) = R.ok (dI f (aput m k v)) := by
  unfold putR
  rw [bnd_ok]
  have : putD (dI f m) (.int k) (f v) = some (dI f (aput m k v)) := by
    unfold putD dI
    simp only
    rw [if_pos (okP_iff.mpr (by rw [List.length_map]; exact h))]
    simp only [D.key, Option.map_some, putL_map (e := (Sum.inl : Int → Key)) injI]
  rw [this]; rfl
theorem vPutS (h : ms.length < 16777216) : putR (dS f ms) (R.ok (.str x)) (f v) = R.ok (dS f (aput ms x v)) := by
  unfold putR
  rw [bnd_ok]
  have : putD (dS f ms) (.str x) (f v) = some (dS f (aput ms x v)) := by
    unfold putD dS
    simp only
    rw [if_pos (okP_iff.mpr (by rw [List.length_map]; exact h))]
    simp only [D.key, Option.map_some, putL_map (e := (Sum.inr : Str → Key)) injS]
  rw [this]; rfl
theorem vPopI (h : aget m k = some v) : dpopR (dI f m) (R.ok (.int k)) = R.ok (f v, dI f (adel m k)) := by
  unfold dpopR
  rw [bnd_ok]
  have hd := del_map (e := (Sum.inl : Int → Key)) (f := f) injI m k
  unfold dropD dI D.key
  simp only
  cases hp : posK (m.map fun p => (Sum.inl p.1 : Key)) (.inl k) with
  | none => rw [hp] at hd; exact absurd (aget_mem h) fun z => hd (List.mem_map.mpr ⟨_, z, rfl⟩)
  | some n =>
    rw [hp] at hd
    simp only at hd ⊢
    rw [← hd.1, h, hd.2.1, hd.2.2]
    rfl
theorem vPopS (h : aget ms x = some v) : dpopR (dS f ms) (R.ok (.str x)) = R.ok (f v, dS f (adel ms x)) := by
  unfold dpopR
  rw [bnd_ok]
  have hd := del_map (e := (Sum.inr : Str → Key)) (f := f) injS ms x
  unfold dropD dS D.key
  simp only
  cases hp : posK (ms.map fun p => (Sum.inr p.1 : Key)) (.inr x) with
  | none => rw [hp] at hd; exact absurd (aget_mem h) fun z => hd (List.mem_map.mpr ⟨_, z, rfl⟩)
  | some n =>
    rw [hp] at hd
    simp only at hd ⊢
    rw [← hd.1, h, hd.2.1, hd.2.2]
    rfl
theorem vGetI' : dgetD (dI f m) (.int k) = (aget m k).map f := by
  unfold dgetD dI getD' D.key
  simp only [Option.map_some, posK_map (e := (Sum.inl : Int → Key)) injI]
  cases aget m k <;> rfl
theorem vGetS' : dgetD (dS f ms) (.str x) = (aget ms x).map f := by
  unfold dgetD dS getD' D.key
  simp only [Option.map_some, posK_map (e := (Sum.inr : Str → Key)) injS]
  cases aget ms x <;> rfl
theorem op3_ok {g : D → D → D → Option D} {a b c : D} : op3 g (R.ok a) (R.ok b) (R.ok c) = R.of (g a b c) := rfl
end
/-! targets, enumerate -/
section
variable {σ : Type} {tps : List D → R σ} {n : Nat} {ds : List D}
theorem tpTup_ok (h : ds.length = n) : tpTup n tps (.tup ds) = tps ds := if_pos h
theorem tpCons_ok {σ1 σ2 : Type} {tp : D → R σ1} {tps : List D → R σ2} {d : D} {r : List D} (h : imms r = true) : tpCons tp tps (d :: r) = (tp d).bnd fun t => (tps r).bnd fun s => .ok (t, s) := if_pos h
theorem tpNil_ok : tpNil [] = R.ok () := rfl
theorem vItEnum {ds : List D} : itR itEnum (R.ok (.lst ds)) = R.ok (enumD 0 ds) := rfl
theorem negX_ok {τ : Type} {i : Int} {t : τ} : negX (R.ok (D.int i, t)) = R.ok (.int (-i), t) := rfl
theorem sat_negX {τ : Type} {m : R (D × τ)} {Q : D × τ → Prop} (h : m.sat fun r => ∃ i, r.1 = .int i ∧ Q (.int (-i), r.2)) : (negX m).sat Q := by
  obtain ⟨⟨d, t⟩, rfl, i, rfl, q⟩ := h
  exact sat_ok.mpr q
theorem vAddDI {i j : Int} : fAddD (.int i) (.int j) = some (.int (i + j)) := rfl
theorem vAddDS {x y : Str} (h : x.length + y.length ≤ 16777216) : fAddD (.str x) (.str y) = some (.str (x ++ y)) := by
  exact if_pos (okP_iff.mpr h)
theorem forN_app {τ : Type} {f : D → τ → R τ} : ∀ {xs ys : List D} {t : τ}, forN f (xs ++ ys) t = (forN f xs t).bnd (forN f ys)
  | [], ys, t => rfl
  | x :: xs, ys, t => by
    rw [List.cons_append, forN_cons, forN_cons]
    cases f x t with
    | ok t' => exact forN_app
    | ex z => rfl
    | bad => rfl
end
end DL
end DLsec38
set_option maxRecDepth 100000
noncomputable section DLsec39
/-! DL39: what is known of values (plain functions): texts of at most n signs, numbers, lists of such. -/
namespace DL
open PySem PySem.Spec PyProof.Rows L2
/-- a text of at most n signs -/
def StrN (n : Nat) (d : D) : Prop := ∃ x : Str, d = .str x ∧ x.length ≤ n
/-- a number, so and so -/
def IntP (P : Int → Prop) (d : D) : Prop := ∃ i : Int, d = .int i ∧ P i
/-- a list of at most n such, at least m -/
def LstP (P : D → Prop) (m n : Nat) (d : D) : Prop := ∃ l : List D, d = .lst l ∧ (∀ x ∈ l, P x) ∧ m ≤ l.length ∧ l.length ≤ n
def RowP (P : D → Prop) (n : Nat) (l : List D) : Prop := (∀ x ∈ l, P x) ∧ l.length = n
theorem StrN.imm {n : Nat} {d : D} (h : StrN n d) : d.imm = true := by obtain ⟨x, rfl, _⟩ := h; rfl
theorem StrN.le {n m : Nat} {d : D} (h : StrN n d) (hm : n ≤ m) : StrN m d := by obtain ⟨x, e, hx⟩ := h; exact ⟨x, e, by omega⟩
theorem IntP.imm {P : Int → Prop} {d : D} (h : IntP P d) : d.imm = true := by obtain ⟨x, rfl, _⟩ := h; rfl
theorem imms_allP {P : D → Prop} (hP : ∀ d, P d → d.imm = true) : ∀ {l : List D}, (∀ d ∈ l, P d) → imms l = true
  | [], _ => rfl
  | a :: l, h => by rw [imms_cons, hP a (h a List.mem_cons_self), imms_allP hP fun d hd => h d (List.mem_cons_of_mem _ hd)]; rfl
theorem app_len (x y : Str) : (x ++ y).length = x.length + y.length := by
  show (x.cps ++ y.cps).size = _
  rw [Array.size_append]; rfl
theorem strsD_str : ∀ l : List Str, strsD (l.map D.str) = some l
  | [] => rfl
  | x :: l => by simp only [List.map_cons, strsD, strsD_str l]
theorem vJoin {y : Str} {l : List Str} (h : (l.map (·.length)).sum + l.length * y.length ≤ 16777216) : joinD (.str y) (.lst (l.map D.str)) = some (.str (Str.join y l)) := by
  unfold joinD
  simp only [strsD_str]
  exact if_pos (okP_iff.mpr h)
theorem join_le (y : Str) : ∀ ys : List Str, (Str.join y ys).length ≤ (ys.map (·.length)).sum + ys.length * y.length
  | [] => Nat.zero_le _
  | a :: l => by
    have ih := join_le y l
    rw [len_join_cons, List.map_cons, List.sum_cons, List.length_cons, Nat.succ_mul]
    omega
theorem strs_of {n : Nat} : ∀ {l : List D}, (∀ d ∈ l, StrN n d) → ∃ xs : List Str, l = xs.map D.str ∧ (∀ x ∈ xs, x.length ≤ n)
  | [], _ => ⟨[], rfl, fun x hx => by cases hx⟩
  | a :: l, h => by
    obtain ⟨x, rfl, hx⟩ := h a List.mem_cons_self
    obtain ⟨xs, rfl, hxs⟩ := strs_of fun d hd => h d (List.mem_cons_of_mem _ hd)
    exact ⟨x :: xs, rfl, fun y hy => by
      rcases List.mem_cons.mp hy with rfl | hy
      · exact hx
      · exact hxs y hy⟩
theorem sum_len {n : Nat} : ∀ {l : List Str}, (∀ x ∈ l, x.length ≤ n) → (l.map (·.length)).sum ≤ l.length * n
  | [], _ => by simp
  | x :: l, h => by
    have := sum_len fun y hy => h y (List.mem_cons_of_mem _ hy)
    have := h x List.mem_cons_self
    rw [List.map_cons, List.sum_cons, List.length_cons, Nat.succ_mul]
    omega
section
variable {a b c : R D} {n m k : Nat} {x : Str} {P Q : D → Prop} {d : D} {i j : Int}
theorem sat_imm (h : a.sat P) (hP : ∀ d, P d → d.imm = true) : (immR a).sat P := by
  obtain ⟨d, rfl, hd⟩ := h
  rw [immR_ok (hP d hd)]
  exact sat_ok.mpr hd
theorem sS_imm (h : a.sat (StrN n)) : (immR a).sat (StrN n) := sat_imm h fun _ h => h.imm
theorem sS_ok (h : x.length ≤ n) : (R.ok (.str x)).sat (StrN n) := sat_ok.mpr ⟨x, rfl, h⟩
theorem sS_cat (ha : a.sat (StrN n)) (hb : b.sat (StrN m)) (h : n + m ≤ k) (hk : k ≤ 16777216) : (op2 fCat a b).sat (StrN k) := by
  obtain ⟨_, rfl, x, rfl, hx⟩ := ha
  obtain ⟨_, rfl, y, rfl, hy⟩ := hb
  rw [op2_ok, vCat (by omega), of_some]
  exact sat_ok.mpr ⟨_, rfl, by rw [app_len]; omega⟩
theorem sS_catD (ha : a.sat (StrN n)) (hb : b.sat (StrN m)) (h : n + m ≤ k) (hk : k ≤ 16777216) : (op2 fAddD a b).sat (StrN k) := by
  obtain ⟨_, rfl, x, rfl, hx⟩ := ha
  obtain ⟨_, rfl, y, rfl, hy⟩ := hb
  rw [op2_ok, vAddDS (by omega), of_some]
  exact sat_ok.mpr ⟨_, rfl, by rw [app_len]; omega⟩
theorem sS_cut {l u : Option Int} (ha : a.sat (StrN n)) (hn : n ≤ 16777216) : (slR a (R.ok l) (R.ok u)).sat (StrN n) := by
  obtain ⟨_, rfl, x, rfl, hx⟩ := ha
  rw [slR_ok, vSlS (by omega), of_some]
  exact sat_ok.mpr ⟨_, rfl, Nat.le_trans (cutS_length _ _ _) hx⟩
theorem sS_sign {P : Int → Prop} (hx : x.length ≤ 16777216) (hb : b.sat (IntP P)) (hP : ∀ i, P i → 0 ≤ i ∧ i < x.length) : (op2 ixD (R.ok (.str x)) b).sat (StrN 1) := by
  obtain ⟨_, rfl, i, rfl, hi⟩ := hb
  rw [op2_ok, vIxS hx (hP i hi).1 (hP i hi).2, of_some]
  exact sat_ok.mpr ⟨_, rfl, Nat.le_refl _⟩
theorem sS_rep {P : Int → Prop} (ha : a.sat (StrN n)) (hb : b.sat (IntP P)) (hP : ∀ i, P i → -1000 ≤ i ∧ i ≤ k) (hk : k ≤ 1000) (hn : n ≤ 10000) (h : n * k ≤ m) : (op2 fRepS a b).sat (StrN m) := by
  obtain ⟨_, rfl, x, rfl, hx⟩ := ha
  obtain ⟨_, rfl, i, rfl, hi⟩ := hb
  obtain ⟨h1, h2⟩ := hP i hi
  have hm : x.length * i.toNat ≤ n * k := Nat.mul_le_mul hx (by omega)
  have hnk : n * k ≤ 10000 * 1000 := Nat.mul_le_mul hn hk
  have : fRepS (.str x) (.int i) = some (.str (timesS x i)) := if_pos (okP_iff.mpr ⟨by omega, by omega, by omega, by show _ ≤ 16777216; omega⟩)
  rw [op2_ok, this, of_some]
  exact sat_ok.mpr ⟨_, rfl, by rw [len_times]; omega⟩
theorem sS_join {y : Str} (hb : b.sat (LstP (StrN n) 0 k)) (hy : y.length ≤ m) (h : k * n + k * m ≤ 16777216) : (op2 joinD (R.ok (.str y)) b).sat (StrN (k * n + k * m)) := by
  obtain ⟨_, rfl, l, rfl, hl, _, hk⟩ := hb
  obtain ⟨xs, rfl, hx⟩ := strs_of hl
  rw [List.length_map] at hk
  have h1 := sum_len hx
  have h2 : xs.length * n ≤ k * n := Nat.mul_le_mul_right _ hk
  have h3 : xs.length * y.length ≤ k * m := Nat.mul_le_mul hk hy
  rw [op2_ok, vJoin (by omega), of_some]
  refine sat_ok.mpr ⟨_, rfl, ?_⟩
  have := join_le y xs
  omega
theorem sI_ok {P : Int → Prop} (h : P i) : (R.ok (.int i)).sat (IntP P) := sat_ok.mpr ⟨i, rfl, h⟩
/-! lists -/
theorem row_nil : (R.ok ([] : List D)).sat (RowP P 0) := sat_ok.mpr ⟨(fun x hx => by cases hx), rfl⟩
theorem row_cons {l : R (List D)} (ha : a.sat P) (hl : l.sat (RowP P n)) : (consR a l).sat (RowP P (n + 1)) := by
  obtain ⟨d, rfl, hd⟩ := ha
  obtain ⟨ds, rfl, h1, h2⟩ := hl
  rw [consR_ok]
  exact sat_ok.mpr ⟨fun x hx => by
    rcases List.mem_cons.mp hx with rfl | hx
    · exact hd
    · exact h1 x hx, by rw [List.length_cons, h2]⟩
theorem sL_lst {l : R (List D)} (hl : l.sat (RowP P n)) (hn : n ≤ 16777216) : (lstR l).sat (LstP P n n) := by
  obtain ⟨ds, rfl, h1, h2⟩ := hl
  rw [lstR_ok (by omega)]
  exact sat_ok.mpr ⟨ds, rfl, h1, by omega, by omega⟩
theorem LstP.mono {m' n' : Nat} (h : LstP P m n d) (hP : ∀ x, P x → Q x) (h1 : m' ≤ m) (h2 : n ≤ n') : LstP Q m' n' d := by
  obtain ⟨l, e, q1, q2, q3⟩ := h
  exact ⟨l, e, fun x hx => hP x (q1 x hx), by omega, by omega⟩
theorem sL_ix {Pi : Int → Prop} (ha : a.sat (LstP P m n)) (hb : b.sat (IntP Pi)) (hP : ∀ i, Pi i → 0 ≤ i ∧ i < m) : (op2 ixD a b).sat P := by
  obtain ⟨_, rfl, l, rfl, h1, h2, h3⟩ := ha
  obtain ⟨_, rfl, i, rfl, hi⟩ := hb
  obtain ⟨q1, q2⟩ := hP i hi
  rw [op2_ok, vIxL q1 (by omega), of_some]
  refine sat_ok.mpr (h1 _ ?_)
  rw [List.getD_eq_getElem?_getD, List.getElem?_eq_getElem (by omega)]
  exact List.getElem_mem _
theorem sL_lc {ft : D → R Bool} {fe : D → R D} {ds : List D} (h : ∀ d ∈ ds, (ft d).sat fun b => b = true → (fe d).sat P) (hl : ds.length ≤ 16777216) : (lcD (R.ok ds) ft fe).sat (LstP P 0 ds.length) :=
  sat_lcD P h hl fun ys h1 h2 => ⟨ys, rfl, h1, Nat.zero_le _, h2⟩
theorem sat_lcR_all {ft : D → R Bool} {fe : D → R D} : ∀ l : List D, (∀ d ∈ l, ft d = R.ok true ∧ (fe d).sat P) → (lcR ft fe l).sat (RowP P l.length)
  | [], _ => row_nil
  | d :: l, h => by
    obtain ⟨h1, h2⟩ := h d List.mem_cons_self
    obtain ⟨y, h3, hy⟩ := h2
    obtain ⟨ys, h4, hys, hl⟩ := sat_lcR_all l fun x hx => h x (List.mem_cons_of_mem _ hx)
    unfold lcR
    rw [h1, bnd_ok, if_pos rfl, h3, bnd_ok, h4, bnd_ok]
    exact sat_ok.mpr ⟨fun x hx => by
      rcases List.mem_cons.mp hx with rfl | hx
      · exact hy
      · exact hys x hx, by rw [List.length_cons, List.length_cons, hl]⟩
/-- each item gives just one -/
theorem sL_lcA {ft : D → R Bool} {fe : D → R D} {ds : List D} (h : ∀ d ∈ ds, ft d = R.ok true ∧ (fe d).sat P) (hl : ds.length ≤ 16777216) : (lcD (R.ok ds) ft fe).sat (LstP P ds.length ds.length) := by
  obtain ⟨ys, h1, h2, h3⟩ := sat_lcR_all ds h
  rw [lcD_ok h1 hl]
  exact sat_ok.mpr ⟨ys, rfl, h2, by omega, by omega⟩
end
end DL
end DLsec39
set_option maxRecDepth 100000
noncomputable section DLsec40
/-! DL40: the law's end with the script's bits told; numbers of at most n bits. -/
namespace DL
open PySem PySem.Spec PyProof.Rows L2
/-- a number of at most n bits -/
def Bt (n : Nat) (i : Int) : Prop := Builtin.Int.intBits i ≤ n
theorem bt_iff {n : Nat} {i : Int} : Bt n i ↔ i.natAbs < 2 ^ n := PySem.intBits_le_iff
def spLawB (K : PySem.W.Frag) : Sp := fun vs H Q _ => ∃ (a : Addr) (ns : List Int), vs = [.ref a] ∧ RoL K H a (ns.map V.int) ∧ ns.length ≤ 63 ∧ (∀ z ∈ ns, Bt 1048576 z) ∧ ∀ H', Q (.bl true) H'
theorem law_spFB {P : Program} {w : World} {K : PySem.W.Frag} {mg : Str → Option Value} {base : Heap} {CX : CXT} {k : Nat} {fs : FS} {f : Addr} {fd : FuncData} {ps : List Str} (F : FnOk P w K mg base CX k f fd ps (spD K [false] fs)) (h : ∀ ns : List Int, ns.length ≤ 63 → (∀ z ∈ ns, Bt 1048576 z) → ∃ us, fs [.rol (ns.map D.int)] = .ok (.bl true) us) :
    FnOk P w K mg base CX k f fd ps (spLawB K) := by
  refine F.imp fun vs H Q E ⟨a, ns, e, hr, hl, hb, q⟩ => ?_
  subst e
  obtain ⟨us, hu⟩ := h ns hl hb
  refine ⟨[.rol (ns.map D.int)], fun _ => [], rfl, rfl, ?_, ?_⟩
  · have ro : outOf H [false] (fun _ => []) = H := outOf_ro rfl
    rw [ro]
    refine ⟨rfl, fun i d m hh => ?_, fun i d m hh ho => ⟨List.nodup_nil, (fun a ha => by cases ha)⟩, (fun i j d m e n _ _ _ _ a ha => by cases ha), Same.refl H, fun i d hh => ?_, fun _ _ => rfl⟩
    · cases i with
      | zero =>
        have hh : some (D.rol (ns.map D.int), Md.shr) = some (d, m) := by simpa [Has, argEnv] using hh
        obtain ⟨rfl, rfl⟩ := Prod.mk.inj (Option.some.inj hh)
        exact ⟨.ref a, rfl, a, ns.map V.int, rfl, hr, reps_ints ns⟩
      | succ i => simp [Has, argEnv] at hh
    · cases i with
      | zero =>
        have hh : some (D.rol (ns.map D.int), Md.shr) = some (d, Md.arg) := by simpa [Has, argEnv] using hh
        cases (Prod.mk.inj (Option.some.inj hh)).2
      | succ i => simp [Has, argEnv] at hh
  · rw [hu]
    intro v H' F Fs' _ _ _ r _ _
    rw [r.1]
    exact q H'
theorem law_ofB {g : FS} {p : List D → R (D × List D)} (F : FRef g [false] p) (h : ∀ ns : List Int, ns.length ≤ 63 → (∀ z ∈ ns, Bt 1048576 z) → (p [.rol (ns.map D.int)]).sat fun r => r.1 = .bl true) : ∀ ns : List Int, ns.length ≤ 63 → (∀ z ∈ ns, Bt 1048576 z) → ∃ us, g [.rol (ns.map D.int)] = .ok (.bl true) us := fun ns hn hb => by
  obtain ⟨r, e, hr⟩ := h ns hn hb
  have := F [.rol (ns.map D.int)]
  rw [e] at this
  obtain ⟨_, us, h2, _⟩ := this
  exact ⟨us, by rw [h2, hr]⟩
section
variable {n m k : Nat} {i j : Int}
theorem Bt.le (h : Bt n i) (hm : n ≤ m) : Bt m i := Nat.le_trans h hm
theorem bt_of {a : Nat} (h : i.natAbs < 2 ^ a) : Bt a i := bt_iff.mpr h
theorem Bt.abs (h : Bt n j) (hi : i.natAbs ≤ j.natAbs) : Bt n i := bt_iff.mpr (Nat.lt_of_le_of_lt hi (bt_iff.mp h))
theorem Bt.neg (h : Bt n i) : Bt n (-i) := h.abs (by omega)
theorem Bt.add (h : Bt n i) (h2 : Bt m j) (h3 : n < k) (h4 : m < k) : Bt k (i + j) := by
  have a := bt_iff.mp (h.le (show n ≤ k - 1 by omega))
  have b := bt_iff.mp (h2.le (show m ≤ k - 1 by omega))
  refine bt_iff.mpr ?_
  have e : 2 ^ k = 2 ^ (k - 1) * 2 := by rw [← Nat.pow_succ]; congr 1; omega
  rw [e]
  generalize 2 ^ (k - 1) = z at a b
  omega
theorem Bt.sub (h : Bt n i) (h2 : Bt m j) (h3 : n < k) (h4 : m < k) : Bt k (i - j) := by
  rw [Int.sub_eq_add_neg]
  exact h.add h2.neg h3 h4
theorem Bt.mul (h : Bt n i) (h2 : Bt m j) (h3 : n + m ≤ k) : Bt k (i * j) := by
  have a := bt_iff.mp h
  have b := bt_iff.mp h2
  refine Bt.le (n := n + m) (bt_iff.mpr ?_) h3
  rw [Int.natAbs_mul, Nat.pow_add]
  exact Nat.mul_lt_mul'' a b
theorem Bt.div (h : Bt n i) (hj : 0 < j) : Bt n (i / j) := by
  rw [← Int.fdiv_eq_ediv_of_nonneg _ (Int.le_of_lt hj)]
  exact h.abs (PySem.natAbs_fdiv_le i j)
theorem vMulT (h : Bt n i) (h2 : Bt m j) (h3 : n + m ≤ 134217728) : fMul (.int i) (.int j) = some (.int (i * j)) := by
  unfold Bt at h h2
  have : mulOk i j = true := okP_iff.mpr (by omega)
  show (if mulOk i j = true then _ else _) = _
  rw [if_pos this]
end
theorem cutD_map {α : Type} (f : α → D) (l : List α) (lo hi : Option Int) : ∃ k : List α, cutD (l.map f) lo hi = k.map f ∧ k.length ≤ l.length ∧ ∀ x ∈ k, x ∈ l := by
  refine ⟨(l.drop (HT.sIx l.length 0 lo)).take (HT.sIx l.length l.length hi - HT.sIx l.length 0 lo), ?_, ?_, fun x hx => List.mem_of_mem_drop (List.mem_of_mem_take hx)⟩
  · unfold cutD
    rw [List.length_map, List.map_take, List.map_drop]
  · rw [List.length_take, List.length_drop]; omega
/-! what is wished is pushed inward -/
section
variable {α : Type} {m a b : R D} {l : R (List D)} {mt ms : R Bool} {Q : D → Prop} {Qb : Bool → Prop} {Ql : List D → Prop} {f : D → D → Option D} {f1 : D → Option D} {g : List D → Option D} {d : D} {ds : List D}
theorem sat_consR : (consR a l).sat Ql ↔ a.sat fun x => l.sat fun r => Ql (x :: r) := by
  unfold consR; rw [sat_bnd]
  simp only [sat_bnd, sat_ok]
theorem sat_op2 : (op2 f a b).sat Q ↔ a.sat fun x => b.sat fun y => (R.of (f x y)).sat Q := by
  unfold op2; rw [sat_bnd]
  simp only [sat_bnd]
theorem sat_op3 {f : D → D → D → Option D} {c : R D} : (op3 f a b c).sat Q ↔ a.sat fun x => b.sat fun y => c.sat fun z => (R.of (f x y z)).sat Q := by
  unfold op3; rw [sat_bnd]
  simp only [sat_bnd]
theorem sat_un1 : (un1 f1 a).sat Q ↔ a.sat fun x => (R.of (f1 x)).sat Q := by unfold un1; rw [sat_bnd]
theorem sat_bltR : (bltR g l).sat Q ↔ l.sat fun ds => (R.of (g ds)).sat Q := by unfold bltR; rw [sat_bnd]
theorem sat_notT : (notT mt).sat Qb ↔ mt.sat fun b => Qb (!b) := by unfold notT; rw [sat_bnd]; simp only [sat_ok]
theorem sat_andT : (andT ms mt).sat Qb ↔ ms.sat fun b => (if b = true then mt else R.ok false).sat Qb := by unfold andT; rw [sat_bnd]
theorem sat_orT : (orT ms mt).sat Qb ↔ ms.sat fun b => (if b = true then R.ok true else mt).sat Qb := by unfold orT; rw [sat_bnd]
def tC (d : D) : R Bool := match d with | .bl b => .ok b | _ => .bad
theorem tC_ok {b : Bool} : tC (.bl b) = R.ok b := rfl
theorem sat_tR : (tR m).sat Qb ↔ m.sat fun d => (tC d).sat Qb := by unfold tR; rw [sat_bnd]; rfl
def immC (d : D) : R D := if d.imm = true then .ok d else .bad
theorem immC_ok (h : d.imm = true) : immC d = R.ok d := if_pos h
theorem sat_immR : (immR m).sat Q ↔ m.sat fun d => (immC d).sat Q := by unfold immR; rw [sat_bnd]; rfl
def lfC (d : D) : R D := if imms d.items = true then .ok d else .bad
theorem lfC_ok (h : imms d.items = true) : lfC d = R.ok d := if_pos h
theorem sat_lfR : (lfR m).sat Q ↔ m.sat fun d => (lfC d).sat Q := by unfold lfR; rw [sat_bnd]; rfl
def dvC (d : D) : R D := if imms d.vals = true then .ok d else .bad
theorem dvC_ok (h : imms d.vals = true) : dvC d = R.ok d := if_pos h
theorem sat_dvR : (dvR m).sat Q ↔ m.sat fun d => (dvC d).sat Q := by unfold dvR; rw [sat_bnd]; rfl
def lstC (ds : List D) : R D := if okP (ds.length ≤ sizeLine) = true then .ok (.lst ds) else .bad
theorem lstC_ok (h : ds.length ≤ 16777216) : lstC ds = R.ok (.lst ds) := if_pos (okP_iff.mpr h)
theorem sat_lstR : (lstR l).sat Q ↔ l.sat fun ds => (lstC ds).sat Q := by unfold lstR; rw [sat_bnd]; rfl
def tupC (ds : List D) : R D := if okP (ds.length ≤ sizeLine) = true then .ok (.tup ds) else .bad
theorem tupC_ok (h : ds.length ≤ 16777216) : tupC ds = R.ok (.tup ds) := if_pos (okP_iff.mpr h)
theorem sat_tupR : (tupR l).sat Q ↔ l.sat fun ds => (tupC ds).sat Q := by unfold tupR; rw [sat_bnd]; rfl
def blC (d : D) (m : R D) (w : Bool) : R D := match d with | .bl b => if b = w then m else .ok (.bl b) | _ => .bad
theorem blC_ok {b w : Bool} {m : R D} : blC (.bl b) m w = if b = w then m else .ok (.bl b) := rfl
theorem sat_andR : (andR a b).sat Q ↔ a.sat fun d => (blC d b true).sat Q := by
  unfold andR; rw [sat_bnd]
  refine iff_of_eq (congrArg _ (funext fun d => ?_))
  cases d <;> first | rfl | (rename_i x; cases x <;> rfl)
theorem sat_orR : (orR a b).sat Q ↔ a.sat fun d => (blC d b false).sat Q := by
  unfold orR; rw [sat_bnd]
  refine iff_of_eq (congrArg _ (funext fun d => ?_))
  cases d <;> first | rfl | (rename_i x; cases x <;> rfl)
end
section
variable {σ : Type} {tps : List D → R σ} {a b c d e : D}
theorem tpTup2 : tpTup 2 tps (.tup [a, b]) = tps [a, b] := rfl
theorem tpTup3 : tpTup 3 tps (.tup [a, b, c]) = tps [a, b, c] := rfl
theorem tpTup4 : tpTup 4 tps (.tup [a, b, c, d]) = tps [a, b, c, d] := rfl
theorem tpTup5 : tpTup 5 tps (.tup [a, b, c, d, e]) = tps [a, b, c, d, e] := rfl
end
end DL
end DLsec40
set_option maxRecDepth 100000
noncomputable section DLsec41
/-! DL41: exceptions: how one is made, raised, let out of a call. -/
namespace DL
open PySem PySem.Spec PyProof.Rows L2
section
variable {X : Cx} {e : Expr} {es : List Expr} {ta : TA} {p1 p2 pos : Pos}
/-- the base class's own initialiser, called by the name of a class of the text -/
theorem pe_cvinit {B : Str} {C0 : Addr} {pl : Sem Bool} (hg : Gl X B) (hm : X.mg B = some (.ref C0)) (hsp : PySem.W.specialIn X.K (.ref C0) "__getattribute__" = some (some (.builtin "type.__getattribute__"))) (hr : PySem.W.readsIn X.K C0 (.type "type") = true)
    (vV : PySem.W.findCls X.K (.ref C0) (.type "type") "__init__" = some (.val (.builtin "ValueError.__init__"))) (ha : PA X (e :: es) ta) (hdb : (B == ("__debug__" : Str)) = false := by decide)
    (hc : eval (.Call (.Attribute (.Name B p1) "__init__" p2) (e :: es) [] pos) X.env = (do
      let w ← eval (.Name B p1) X.env
      standAt p2.atName
      let (g, fst) ← holding [w] (getMethod w "__init__" pl)
      callWith pos g fst (backTo pos (starEach (e :: es) X.env)) (backToKw pos (keywordEach [] X.env))) := by rfl)
    (he : starEach (e :: es) X.env = (false, eval e X.env) :: starEach es X.env := by rfl) (hpl : (backTo pos (starEach es X.env)).any (·.1) = false := by rfl) :
    PE X (.Call (.Attribute (.Name B p1) "__init__" p2) (e :: es) [] pos) (tVeI X.K ta) := by
  refine ⟨fun pins s σ H Q I h => PySem.W.methodCall_KW (ld_glob I hg hm ?_ hdb) hc⟩
  refine PySem.W.method_cls I.kIn hsp (PySem.W.cls_value I.kIn hr vV (by decide +kernel) ?_)
  show wpAny _ _ (callWith pos (Value.builtin "ValueError.__init__") [] (backTo pos (starEach (e :: es) X.env)) []) _ _ _
  refine PyProof.Rows.callWith_method1 (thn (ha.run pos pins _ σ H _ (I.tok _) h) fun us s1 z => ?_) he hpl
  obtain ⟨vs, H1, I1, r1, a, C, ws, rfl, hl, T, ea, q⟩ := z
  cases r1 with
  | @cons _ u0 _ ur ra rw' =>
    obtain rfl : u0 = Value.ref a := ra
    refine oinit_ok T I1 ea ?_ fun s' J => ⟨.non, H1, J, rfl, q⟩
    have hq : ur.length = ws.length := (Paired.length rw').symm
    rw [hq, sizeLine_eq]
    omega
end
/-- the first def of a class's body -/
def clsDef : Stmt → Stmt
  | .ClassDef _ _ _ (d :: _) _ _ _ _ _ _ _ => d
  | s => s
/-- an initialiser that stores its one argument: made so -/
def spInit (K : PySem.W.Frag) (C : Addr) (fn : Str) : Sp := fun vs H Q _ => ∃ (a : Addr) (v : V), vs = [.ref a, v] ∧ OexC K C ∧ PySem.W.findIn K (.ref C) fn = some none ∧ H a = some (exo a C none) ∧
  ∀ dx, H dx = none → dx ≠ a → Q .non (upd (upd H dx (exd dx [(fn, v)])) a (exo a C (some dx)))
section
variable {P : Program} {w : World} {K : PySem.W.Frag} {mg : Str → Option Value} {base : Heap}
/-- what the base class of all refusals gives -/
structure BaseX (K : PySem.W.Frag) (mg : Str → Option Value) (B : Str) : Prop where
  ex : ∃ C0 : Addr, mg B = some (.ref C0) ∧ PySem.W.specialIn K (.ref C0) "__getattribute__" = some (some (.builtin "type.__getattribute__")) ∧ PySem.W.readsIn K C0 (.type "type") = true ∧ PySem.W.findCls K (.ref C0) (.type "type") "__init__" = some (.val (.builtin "ValueError.__init__"))
theorem init_tail {C a : Addr} {fn m : Str} {v : V} {Q : VK} {H : Hp} (hT : OexC K C) (hn : PySem.W.findIn K (.ref C) fn = some none) (ha : H a = some (exo a C none)) (q : ∀ dx, H dx = none → dx ≠ a → Q .non (upd (upd H dx (exd dx [(fn, v)])) a (exo a C (some dx)))) :
    tSeq (tDrop (tVeI K (tCons (tVar 0) (tCons (L2.tC (.str m)) L2.tNil)))) (tOst K fn (tVar 0) (tVar 1)) { nx := fun _ H' => Q .non H', rt := Q } (L2.start ["self", fn] [.ref a, v]) H :=
  ⟨.ref a, rfl, a, C, [.str m], rfl, by simp, hT, ha, v, rfl, .ref a, rfl, a, C, rfl, hT, hn, .inl ⟨ha, q⟩⟩
/-- an exception class of the text that stores what it is made of under the name fn -/
structure InitX (P : Program) (w : World) (K : PySem.W.Frag) (mg : Str → Option Value) (base : Heap) (x fn : Str) : Prop where
  ex : ∃ (C f : Addr) (fd : FuncData), mg x = some (.ref C) ∧ clsOf K x = some C ∧ OexC K C ∧ PySem.W.findIn K (.ref C) fn = some none ∧ PySem.W.findIn K (.ref C) "__init__" = some (some (.ref f)) ∧ PySem.W.typeIn K (.ref f) = some (.type "function") ∧ FnOk P w K mg base CX0 1 f fd ["self", fn] (spInit K C fn) ∧ Binds K fd ["self", fn] []
/-- one without an initialiser of its own -/
structure PlainX (K : PySem.W.Frag) (mg : Str → Option Value) (x : Str) : Prop where
  ex : ∃ C : Addr, mg x = some (.ref C) ∧ clsOf K x = some C ∧ PySem.W.excIn K C [.type "ValueError", .type "Exception", .type "BaseException", .type "object"] "ValueError.__new__" = true ∧ PySem.W.keepIn K (.ref C) = true ∧ PySem.W.subIn K (.ref C) (.type "BaseException") = some true ∧ PySem.W.typeIn K (.ref C) = some (.type "type")
end
section
variable {X : Cx} {C : Ct} {ρ : DEnv} {σ : L2.St} {H : Hp} {Fs : Nat → List Addr} {e : Expr} {es : List Expr} {s : SE} {t : SA} {x fn m : Str} {j : Nat} {p p2 pos pos2 : Pos}
/-- raise X('m') -/
def sRaise (x : Str) : SS := fun ρ => .ex ⟨x, []⟩ ρ
theorem dRaise (T : PlainX X.K X.mg x) (hc : X.calm = true) (hg : Gl X x := by rfl) (hdb : (x == ("__debug__" : Str)) = false := by decide) : PSd X (.Raise (some (.Call (.Name x p) [.Constant (.str m) j p2] [] pos)) none pos2) (sRaise x) := by
  obtain ⟨C1, q1, q2, q3, q4, q5, q6⟩ := T.ex
  refine ⟨fun C W Z ρ σ H Fs tk E h => WS.of (ps_raise hc tk (pmk_own PySem.F.excBase_ValueError q3 q1 q4 (raises_own q5 q6) hg hdb)) ?_⟩
  exact h H σ Fs (.ref C1) none E ⟨C1, q2, rfl, .inl ⟨rfl, rfl⟩⟩
/-- raise X(e), X's own initialiser keeping e -/
def sRaiseI (x fn : Str) (s : SE) : SS := fun ρ => match s ρ with
  | some (d, _) => if d.imm = true then .ex ⟨x, [(fn, d)]⟩ ρ else .bad
  | none => .bad
theorem made_heap {H1 : Hp} {a dx C1 : Addr} {fn : Str} {v : V} (ha : H1 a = none) (hd : upd H1 a (exo a C1 none) dx = none) (hne : dx ≠ a) :
    upd (del (upd (upd (upd H1 a (exo a C1 none)) dx (exd dx [(fn, v)])) a (exo a C1 (some dx))) a) dx (.xd [(fn, v)]) = upd H1 dx (.xd [(fn, v)]) := by
  funext b
  by_cases h1 : b = dx
  · rw [h1, upd_same, upd_same]
  · rw [upd_ne h1, upd_ne h1]
    by_cases h2 : b = a
    · rw [h2, del_same, ha]
    · rw [del_ne h2, upd_ne h2, upd_ne h1, upd_ne h2]
theorem dRaiseI (T : InitX X.prog X.w X.K X.mg X.base x fn) (hc : X.calm = true) (hr : Room 2 X.A) (h : PP X e s) (hg : Gl X x := by rfl) (hdb : (x == ("__debug__" : Str)) = false := by decide)
    (he : starEach (e :: []) X.env = (false, eval e X.env) :: starEach [] X.env := by rfl) (hpl : (backTo pos (starEach [] X.env)).any (·.1) = false := by rfl) :
    PSd X (.Raise (some (.Call (.Name x p) [e] [] pos)) none pos2) (sRaiseI x fn s) := by
  obtain ⟨C1, f, fd, q1, q2, q3, q4, q5, q6, q7, q8⟩ := T.ex
  refine ⟨fun C W Z ρ σ H Fs tk E hs => WS.of (ps_raise hc tk (pmk_oex q3 q5 q6 q7 hr q8 .nil pass0 hg q1 (pa_cons (we X e) pa_nil he) hdb he hpl)) ?_⟩
  unfold sRaiseI at hs
  cases h1 : s ρ with
  | none => rw [h1] at hs; exact hs.elim
  | some q =>
    obtain ⟨d, k⟩ := q
    rw [h1] at hs
    simp only at hs
    by_cases him : d.imm = true
    · rw [if_pos him] at hs
      refine h.run C ρ σ H Fs d k _ E h1 fun v H1 F s1 r => ?_
      refine ⟨by simp, fun a ha => ?_⟩
      rw [List.append_nil]
      refine ⟨a, v, rfl, q3, q4, upd_same, fun dx hdx hne => ⟨rfl, dx, [(fn, v)], upd_same, ?_, ?_, ?_⟩⟩
      · rw [upd_ne hne, upd_same]
      · rw [upd_ne hne] at hdx; exact hdx
      · rw [made_heap ha hdx hne]
        rw [upd_ne hne] at hdx
        have s2 : Same H1 (upd H1 dx (.xd [(fn, v)])) := same_new hdx
        obtain ⟨_, r2⟩ := r.im him
        refine hs _ σ Fs (.ref C1) (some dx) ((E.same s1).same s2) ⟨C1, q2, rfl, .inr ⟨dx, [v], rfl, upd_same, ?_, ?_⟩⟩
        · show imms [d] = true
          rw [imms_cons, him]; rfl
        · exact ⟨v, [], [], [], rfl, rfl, r2.same s2, rfl, rfl⟩
    · rw [if_neg him] at hs; exact hs.elim
/-- a def that may raise is called -/
def sCallR (fs : FS) (n : Nat) (t : SA) : SX := fun ρ => match t ρ with
  | some l => if l.length = n then (match fs (dsOf l) with
    | .ok d _ => .ok d none ρ
    | .ex x => .ex x ρ
    | .bad => .bad) else .bad
  | none => .bad
theorem xCallR {k n : Nat} {io : List Bool} {fs : FS} {x : Str} (c : Cal X.prog X.w X.K X.mg X.base (L2.CX X.prog X.w) x k io fs) (hr : Room k X.A) (ha : PPA X (e :: es) t) (hn : io.length = n := by rfl)
    (hio : io.all (!·) = true := by rfl) (hg : Gl X x := by rfl) (hdb : (x == ("__debug__" : Str)) = false := by decide) (he : starEach (e :: es) X.env = (false, eval e X.env) :: starEach es X.env := by rfl) (hpl : (backTo pos (starEach es X.env)).any (·.1) = false := by rfl) :
    PX X (.Call (.Name x p) (e :: es) [] pos) (sCallR fs n t) := by
  obtain ⟨f, fd, ps, F, hm, hk, hb⟩ := c
  refine ⟨fun C W ρ σ H Fs Q tk E h => WE.of (pe_callS F hr hg hm hk hb (fun σ => passAt tk σ) (wa X _) hdb he hpl) ?_⟩
  unfold sCallR at h
  cases h1 : t ρ with
  | none => rw [h1] at h; exact h.elim
  | some l =>
    rw [h1] at h
    simp only at h
    by_cases hl : l.length = n
    · rw [if_pos hl] at h
      refine ha.run C ρ σ H Fs l _ E h1 fun vs H1 Gs s1 r => ?_
      obtain ⟨e1, e2⟩ := ro_env (pin := fun i => vs.getD i .non) hio (hl.trans hn.symm) r
      refine ⟨dsOf l, fun i => Gs.getD i [], e1, by simp [dsOf, hl, hn], e2, ?_⟩
      cases h3 : fs (dsOf l) with
      | bad => simp only [h3] at h
      | ex z =>
        simp only [h3] at h
        intro cls dd H' s2 xr
        rw [outOf_ro hio] at s2
        exact h H' Fs cls dd ((E.same s1).same s2) xr
      | ok z us =>
        simp only [h3] at h
        intro v H' F' Fs' s2 _ _ rr nd fr
        rw [outOf_ro hio] at s2 fr
        have E' := (E.same s1).same s2
        refine h v H' F' Fs E' Shr.refl ?_
        have rn : RepR X.K H H' Fs none z v F' := ⟨rr, nd, fun a hm => s1.free (fr a hm).1⟩
        exact rn.inV E
    · rw [if_neg hl] at h; exact h.elim
end
end DL
end DLsec41
set_option maxRecDepth 100000
noncomputable section DLsec42
/-! DL42: try: .. except X as e: y = e: the exception is kept. -/
namespace DL
open PySem PySem.Spec PyProof.Rows L2
section
variable {X : Cx} {pins : List (Addr × Obj)} {σ : L2.St} {H : Hp} {s : Shared}
/-- an object that nobody told of is told of from here on -/
theorem inv_adopt {a : Addr} {oe : Obj} {vs : Array Value} {φ : Heap → Prop} (I : Inv X pins σ H s) (hg : s.heap.get? a = some oe) (hd : oe.data = .fields vs) (na : H a = none) (nL : a ≠ X.env.locals) (n0 : X.s_0.heap.get? a = none) (np : ∀ p ∈ X.pn ++ pins, p.1 ≠ a) (hφ : φ s.heap) (hst : ∀ h1 h2 : Heap, φ h1 → (∀ o, h1.get? a = some o → h2.get? a = some o) → φ h2) :
    Inv X pins σ (upd H a (.ext φ)) s := by
  have ne : ∀ b o, H b = some o → b ≠ a := fun b o e z => by rw [z, na] at e; cases e
  refine ⟨I.ok, I.os, I.bare, ⟨I.base.keep, I.base.slot, fun b o e n hx => ?_, I.base.there, fun b xs e => ?_, fun b o u e => ?_, fun b ps e => ?_⟩, I.loc, I.cell, ?_, fun x c e => ?_, fun p hp => ?_, ?_, I.len⟩
  · rw [upd_ne fun z => by rw [z, n0] at e; cases e]
    exact I.base.free b o e n hx
  · have q := I.base.tups b xs e
    rw [upd_ne (ne b _ q)]; exact q
  · have q := I.base.frzs b o u e
    rw [upd_ne (ne b _ q)]; exact q
  · obtain ⟨m, q⟩ := I.base.tbls b ps e
    exact ⟨m, by rw [upd_ne (ne b _ q)]; exact q⟩
  · rw [upd_ne (Ne.symm nL)]; exact I.free
  · rw [upd_ne]
    · exact I.freeC x c e
    · intro z
      obtain ⟨v, o, ho, hv⟩ := I.cell x c e
      rw [z, hg] at ho
      cases ho
      rw [hd] at hv
      cases hv
  · obtain ⟨h1, h2, h3⟩ := I.pin p hp
    exact ⟨h1, by rw [upd_ne (np p hp)]; exact h2, h3⟩
  · exact L2.HOk.laidN I.hok (fun b u e => e) na ⟨hφ, ⟨_, hg⟩, hst⟩
/-- what the clause wishes of an exception of the body: slot j keeps it -/
def wKp (K : PySem.W.Frag) (c : Value) (i j : Nat) (Wout : WX) (D : Ends) : WX := fun cls d σ H =>
  ∃ b, PySem.W.exmOne K cls c = some b ∧ (b = true → ∀ a, H a = none → D.nx (((σ.set i (some (.ref a))).set j (some (.ref a))).set i none) (upd H a (ExT cls d a))) ∧ (b = false → Wout cls d σ H)
end
section
variable {X : Cx} {x n : Str} {c : Value} {i j : Nat} {body suite : List Stmt} {b₀ : Stmt} {np pos pos' : Pos} {tb : WX → TS} {Wout : WX}
theorem ps_try_keep (hs : X.stack = X.env :: X.outer) (hf : X.env.frame = some X.env.locals) (hx : X.ex = []) (hN : X.N.Nodup) (hi : X.N[i]? = some n) (hln : X.env.kindOf n = some .local) (hc : Names X x c) (tk : Takes X Wout)
    (hb : ∀ (W : WX) (pn : List (Addr × Obj)) (xe : Value → Shared → Prop), Takes (X.tr pn xe) W → PassesOwn (model X.prog X.w) X.A X.env xe → PSs (X.tr pn xe) body (tb W))
    (hsu : ∀ (a : Addr) (oe : Obj) (pn : List (Addr × Obj)), PSs (X.suite a ((a, oe) :: pn)) (b₀ :: suite) (fun D σ H => ∃ v, σ[i]? = some (some v) ∧ D.nx (σ.set j (some v)) H)) :
    PS X (.Try body [.ExceptHandler (some (.Name x np)) (some n) (b₀ :: suite) pos'] [] [] pos) (fun D σ H => tb (wKp X.K c i j Wout D) D σ H) := by
  refine ⟨fun pins s σ H D I h => ?_⟩
  have ok := I.ok
  have frs2 : X.A.frames = some (X.env :: X.outer) := by rw [ok.frames, hs]
  have hloc : Loc X.env.scope n := .inl hln
  refine wpAny_Try_except (wpAny_mono ((hb (wKp X.K c i j Wout D) (X.pn ++ pins) (fun e s₁ => wpAny (model X.prog X.w) X.A (noteFrame e X.env) (fun _ s₂ => wpAny (model X.prog X.w) X.A (setFlight e none) (fun _ s₃ =>
    wpAny (model X.prog X.w) X.A (handleBy e X.env [.ExceptHandler (some (.Name x np)) (some n) (b₀ :: suite) pos']) (SP X pins D) X.xe s₃) X.xe s₂) X.xe s₁) (fun u s' xx => ?_) PassesOwn.looking).run [] s σ H D (I.toTry _) h) (fun f s1 q => ?_) (fun _ _ z => z))
  · obtain ⟨a, B, sI, pins', σ', H', cls, d, rfl, J', nb, up, sky, na, os, ag, b, hb1, hyes, hno⟩ := xx
    have J : Inv X pins σ' H' sI := J'.ofTry ok
    refine Sky.land Zc.steady frs2 hf (show Sky B (X.env :: X.outer) a (Zc cls d) X.env.locals s'.heap by rw [← hs]; exact sky) fun h3 fl3 up3 => ?_
    have J3 : Inv X pins σ' H' { s' with heap := h3 } := J.landed nb fl3.1 (up.trans up3) os ag
    obtain ⟨oe3, vs3, g3, z3, d3⟩ := fl3.there
    have nfr : a ∉ frs (X.env :: X.outer) := fun hm => by
      obtain ⟨_, o', e', hnf⟩ := fl3.2.2.1.mem hm
      rw [g3] at e'; cases e'
      exact hnf _ d3
    have nL : a ≠ X.env.locals := fun z => nfr (List.mem_filterMap.mpr ⟨X.env, List.mem_cons_self, by rw [hf, z]⟩)
    have nF : a ∉ X.fs := fun hm => by
      obtain ⟨e, he, q⟩ := List.mem_filterMap.mp hm
      exact nfr (List.mem_filterMap.mpr ⟨e, List.mem_cons_of_mem _ he, q⟩)
    -- it was not there ahead of the body
    have nI : sI.heap.get? a = none := by
      cases e : sI.heap.get? a with
      | none => rfl
      | some o =>
        have q := nb a o e (by rw [hs]; exact nfr)
        rw [fl3.2.1] at q; cases q
    have n0 : X.s_0.heap.get? a = none := by
      cases e : X.s_0.heap.get? a with
      | none => rfl
      | some o =>
        obtain ⟨o', q⟩ := J.base.there a o e (by rw [hx]; exact fun z => nomatch z)
        rw [nI] at q; cases q
    have npn : ∀ p ∈ X.pn ++ pins, p.1 ≠ a := fun p hp z => by
      have q := (J.pin p hp).1
      rw [z, nI] at q; cases q
    refine wpAny_handleBy_cons (codeAny_handlers_test ?_) (by intro q; cases q)
    have LT : PySem.W.Looks (model X.prog X.w) h3 (typeOf (.ref a)) cls := fun A Q E s k q => wpAny_typeOf_ref (k _ _ g3) (by rw [z3.1]; exact q)
    have LM := PySem.W.exm_one (M := model X.prog X.w) J3.kIn LT hb1
    have S3 := J3.suite g3 d3 na nL nF
    have look : ∀ {Q : Value → Shared → Prop} {E : Value → Shared → Prop}, Q c { s' with heap := h3 } → wpAny (model X.prog X.w) (X.A.mark (some (.ref a))) (eval (.Name x np) X.env) Q E { s' with heap := h3 } := fun {Q E} q => by
      obtain ⟨hg, hdbg, hm | ⟨hm, hv, hnn⟩⟩ := hc
      · exact ld_glob (X := X.suite a ((a, oe3) :: (X.pn ++ pins))) S3 hg hm q hdbg
      · exact ld_blt (X := X.suite a ((a, oe3) :: (X.pn ++ pins))) S3 hg hm hv q hnn hdbg
    refine look (LM.here ?_)
    cases b with
    | true =>
      refine codeAny_handlers_suite_as (HandSPX.lands_againZ fl3 fun h4 fl4 up4 => ?_)
      have J4 : Inv X pins σ' H' { s' with heap := h4 } := J.landed nb fl4.1 ((up.trans up3).trans up4) os ag
      obtain ⟨oe4, vs4, g4, z4, d4⟩ := fl4.there
      have S4 := J4.suite g4 d4 na nL nF
      have hil : i < σ'.length := by
        rw [J.len]
        exact (List.getElem?_eq_some_iff.mp hi).1
      refine store_ok (X := X.suite a ((a, oe4) :: (X.pn ++ pins))) (v := .ref a) S4 hN hi hloc rfl (fun s5 S5 => ?_) (.inr hln)
      let D2 : Ends := { nx := fun σ2 H2 => H2 a = none ∧ D.nx (σ2.set i none) (upd H2 a (ExT cls d a)), rt := fun _ _ => False, bk := fun _ _ => False, ct := fun _ _ => False }
      refine wpAny_mono ((hsu a oe4 (X.pn ++ pins)).run [] s5 _ H' D2 S5 ⟨.ref a, by rw [List.getElem?_set_self hil], na, hyes rfl a na⟩) (fun f s6 hsp => ?_) (fun _ _ z => False.elim z)
      cases f with
      | next =>
        obtain ⟨σ6, H6, S6, q5, q6⟩ := hsp
        obtain ⟨g6, _⟩ := S6.pin (a, oe4) (List.mem_append_left _ List.mem_cons_self)
        have J6 : Inv X pins σ6 (upd H6 a (ExT cls d a)) s6 := inv_adopt (S6.unsuite ok) g6 d4 q5 nL n0 npn ⟨oe4, vs4, g6, z4, d4⟩ (fun h1 h2 ⟨o, v, e1, e2, e3⟩ k => ⟨o, v, k o e1, e2, e3⟩)
        exact gone_ok J6 hN hi hln fun s7 J7 => ⟨_, _, J7, q6⟩
      | brk => obtain ⟨_, _, _, z⟩ := hsp; exact z.elim
      | cont => obtain ⟨_, _, _, z⟩ := hsp; exact z.elim
      | ret u => obtain ⟨_, _, _, _, _, z⟩ := hsp; exact z.elim
    | false =>
      show wpAny _ X.A (handleBy (.ref a) X.env []) _ _ _
      refine wpAny_handleBy_nil ?_
      obtain ⟨k1, k2, k3, oe, vs, T, oT, ts', he, hz, hd, h1, hr⟩ := id fl3
      unfold PySem.passOn
      refine wpAny_bind (wpAny_field he hd h1 ?_)
      rw [if_neg (show ¬ ((Value.ref T == Value.none) = true) from by simp)]
      have fin : wpAny (model X.prog X.w) X.A (setFlight (.ref a) X.env.frame) (fun _ s4 => wpAny (model X.prog X.w) X.A (throw (.ref a) : Sem Flow) (SP X pins D) X.xe s4) X.xe { s' with heap := h3 } := by
        rw [hf]
        refine HandSPX.setFlight_upZ fl3 fun h4 hh4 up4 => wpAny_throw (tk _ _ ?_)
        exact ⟨a, B, sI, pins, σ', H', cls, d, rfl, J, nb, (up.trans up3).trans up4, .inr (.inr (by rw [hs]; exact hh4)), na, os, ag, hno rfl⟩
      first
        | exact wpAny_bind (wpAny_pure (wpAny_bind fin))
        | exact wpAny_bind fin
  · cases f with
    | next => obtain ⟨σ1, H1, J1, q1⟩ := q; exact wpAny_execs_nil ⟨σ1, H1, J1.ofTry ok, q1⟩
    | brk => obtain ⟨σ1, H1, J1, q1⟩ := q; exact ⟨σ1, H1, J1.ofTry ok, q1⟩
    | cont => obtain ⟨σ1, H1, J1, q1⟩ := q; exact ⟨σ1, H1, J1.ofTry ok, q1⟩
    | ret u => obtain ⟨v, σ1, H1, J1, r1, q1⟩ := q; exact ⟨v, σ1, H1, J1.ofTry ok, r1, q1⟩
end
section
variable {X : Cx} {C : Ct} {ρ : DEnv} {σ : L2.St} {H : Hp} {Fs : Nat → List Addr} {body : List Stmt} {t : SS} {i j : Nat} {x n y : Str} {c : Value} {np np2 yp ap pos pos' : Pos} {cs : List Str}
/-- try: body / except X as n: y = n. cs: the classes that X takes -/
def sTry (cs : List Str) (i j : Nat) (t : SS) : SS := fun ρ => match t ρ with
  | .ex x ρ' => if cs.contains x.cls then (match setS j (.exc x.cls (x.fs.map (·.1)) (x.fs.map (·.2))) none (ρ'.set i none) with
    | some ρ'' => if okP (∀ d, ρ'[i]? ≠ some (some (d, .arg))) = true then .nx ρ'' else .bad
    | none => .bad) else .bad
  | o => o
theorem set3 {α : Type} {l : List α} {i j : Nat} {a b c : α} (h : i ≠ j) : ((l.set i a).set j b).set i c = (l.set i c).set j b := by
  rw [List.set_comm _ _ (Ne.symm h), List.set_set]
theorem dTry (hs : X.stack = X.env :: X.outer) (hf : X.env.frame = some X.env.locals) (hx : X.ex = []) (hcm : X.calm = true) (i j : Nat) (hij : i ≠ j) (hN : X.N.Nodup) (hc : Names X x c) (hcs : ∀ q ∈ cs, ∀ C1 : Addr, clsOf X.K q = some C1 → PySem.W.exmOne X.K (.ref C1) c = some true)
    (hb : ∀ (pn : List (Addr × Obj)) (xe : Value → Shared → Prop), PassesOwn (model X.prog X.w) X.A X.env xe → PSsd (X.tr pn xe) body t)
    (hi : X.N[i]? = some n := by rfl) (hln : X.env.kindOf n = some .local := by rfl) (hj : X.N[j]? = some y := by rfl) (hxj : Loc X.env.scope y := by first | exact Or.inl rfl | exact Or.inr rfl) (hfj : X.fn y = true ∨ X.env.scope.names.lookup y = some .local := by first | exact .inl rfl | exact .inr rfl)
    (hsw : ∀ (a : Addr) (oe : Obj) (pn : List (Addr × Obj)), swapsWith (.Name n np2) (some (.Name y yp)) ap.line (X.suite a ((a, oe) :: pn)).env = pure false := by intro _ _ _; rfl) (hvn : Vis X.env.scope n := by first | exact Or.inl rfl | exact Or.inr (Or.inl rfl) | exact Or.inr (Or.inr rfl))
    (hd : (n == ("__debug__" : Str)) = false := by decide) (hcd : (n == ("__classdict__" : Str)) = false := by decide) :
    PSd X (.Try body [.ExceptHandler (some (.Name x np)) (some n) [.Assign [.Name y yp] (.Name n np2) ap] pos'] [] [] pos) (sTry cs i j t) := by
  refine ⟨fun C W Z ρ σ H Fs tk E h => WS.of (ps_try_keep (i := i) (j := j) (tb := fun W2 D σ H => ∀ (pn : List (Addr × Obj)) (xe : Value → Shared → Prop), Takes (X.tr pn xe) W2 → PassesOwn (model X.prog X.w) X.A X.env xe → WSs (X.tr pn xe) body D σ H)
    hs hf hx hN hi hln hc tk (fun W2 pn xe tk2 po => ⟨fun pins s σ H D I h => h pn xe tk2 po pins s I⟩) fun a oe pn => pss_one (ps_set (i := j) (X := X.suite a ((a, oe) :: pn)) hN hj hxj (pe_var (i := i) hi hvn hd hcd) (hsw a oe pn) hfj)) ?_⟩
  intro pn xe tk2 po
  refine (hb pn xe po).run C (wKp X.K c i j W Z) Z ρ σ H Fs tk2 E ?_
  have h : OutOk X.K C Z W (sTry cs i j t ρ) := h
  unfold sTry at h
  cases ho : t ρ with
  | nx ρ' => rw [ho] at h; exact h
  | ct ρ' => rw [ho] at h; exact h
  | bk ρ' => rw [ho] at h; exact h
  | rt d ρ' => rw [ho] at h; exact h
  | bad => rw [ho] at h; exact h
  | ex z ρ' =>
    rw [ho] at h
    simp only at h
    by_cases hz : cs.contains z.cls = true
    · rw [if_pos hz] at h
      cases hg : setS j (.exc z.cls (z.fs.map (·.1)) (z.fs.map (·.2))) none (ρ'.set i none) with
      | none => rw [hg] at h; exact h.elim
      | some ρ'' =>
        rw [hg] at h
        simp only at h
        by_cases har : okP (∀ d, ρ'[i]? ≠ some (some (d, .arg))) = true
        · rw [if_pos har] at h
          intro H' σ' Fs' cls dd E' xr
          obtain ⟨C1, k1, rfl, k3⟩ := xr
          refine ⟨true, hcs z.cls (List.contains_iff_mem.mp hz) C1 k1, fun _ a na => ?_, fun q => nomatch q⟩
          rw [set3 hij]
          have s0 : Same H' (upd H' a (ExT (.ref C1) dd a)) := same_new na
          have Ew : EnvOk X.K C (upd H' a (ExT (.ref C1) dd a)) (ρ'.set i none) (σ'.set i none) (fun j => if j ∈ [i] then [] else Fs' j) := (E'.wipe [i]).same s0
          have rv : RepV X.K C (ρ'.set i none) (fun j => if j ∈ [i] then [] else Fs' j) (upd H' a (ExT (.ref C1) dd a)) none (.exc z.cls (z.fs.map (·.1)) (z.fs.map (·.2))) (.ref a) [] := by
            refine ⟨⟨rfl, a, C1, dd, rfl, k1, upd_same, ?_⟩, List.nodup_nil, fun a ha => by cases ha⟩
            rcases k3 with ⟨e1, e2⟩ | ⟨d1, vs, e1, e2, e3, e4⟩
            · exact .inl ⟨by rw [e1]; rfl, by rw [e1]; rfl, e2⟩
            · exact .inr ⟨d1, vs, e1, s0 _ _ e2, e3, e4.same s0⟩
          obtain ⟨_, Fs2, E2⟩ := setS_ok Ew rv hg
          exact h _ _ Fs2 E2
        · rw [if_neg har] at h; exact h.elim
    · rw [if_neg hz] at h; exact h.elim
end
/-! ### isinstance of what may be a kept exception -/
/-- what an exception class must say, so that isinstance and its instances' names are answered -/
def exkB (K : PySem.W.Frag) (C : Addr) : Bool := (PySem.W.clsIn K C).isSome && (decide (PySem.W.findIn K (.ref C) "__getattribute__" = some (some (.builtin "BaseException.__getattribute__"))) && (decide (PySem.W.findIn K (.ref C) "__getattr__" = some none) &&
  (decide (PySem.W.subIn K (.ref C) (.type "BaseException") = some true) && (decide (PySem.W.findIn K (.ref C) "__class__" = some (some (.builtin "object.__class__"))) && (decide (PySem.W.mroIn K C (.type "object") = some true) && PySem.W.hasDictIn K C)))))
structure ExK (K : PySem.W.Frag) (C : Addr) : Prop where
  cl : (PySem.W.clsIn K C).isSome = true
  ga : PySem.W.findIn K (.ref C) "__getattribute__" = some (some (.builtin "BaseException.__getattribute__"))
  gg : PySem.W.findIn K (.ref C) "__getattr__" = some none
  sub : PySem.W.subIn K (.ref C) (.type "BaseException") = some true
  ac : PySem.W.findIn K (.ref C) "__class__" = some (some (.builtin "object.__class__"))
  ob : PySem.W.mroIn K C (.type "object") = some true
  hd : PySem.W.hasDictIn K C = true
theorem exkB_ok {K : PySem.W.Frag} {C : Addr} (h : exkB K C = true) : ExK K C := by
  simp only [exkB, Bool.and_eq_true, decide_eq_true_eq] at h
  obtain ⟨h1, h2, h3, h4, h5, h6, h7⟩ := h
  exact ⟨h1, h2, h3, h4, h5, h6, h7⟩
/-- the table of the exception classes: what isinstance answers -/
structure ExTab (K : PySem.W.Frag) (mg : Str → Option Value) (sup : Str → Str → Bool) (names : List Str) : Prop where
  gc : PySem.W.specialIn K (.builtin "object.__class__") "__get__" = some (some (.builtin "getset_descriptor.__get__"))
  tk : PySem.W.takesIn K (.builtin "object.__class__") = some true
  cls : ∀ q ∈ names, ∃ C : Addr, mg q = some (.ref C) ∧ clsOf K q = some C ∧ ExK K C ∧ PySem.W.kitOne K (.type "NoneType") (.ref C) = some false
  two : ∀ q ∈ names, ∀ r ∈ names, ∀ C D : Addr, clsOf K q = some C → clsOf K r = some D → PySem.W.kitOne K (.ref C) (.ref D) = some (sup q r)
  ve : ∀ q ∈ names, ∀ C : Addr, clsOf K q = some C → PySem.W.kitOne K (.ref C) (.type "ValueError") = some true
theorem inst_ext {P : Program} {w : World} {H : Hp} {h : Heap} {a C : Addr} {d : Option Addr} (ok : HOk P w H h) (ha : H a = some (ExT (.ref C) d a)) (hd : ∀ dd, d = some dd → ∃ fs, H dd = some (.xd fs)) : ∃ ox od, PySem.W.InstAt h a ox C od ∧ (∀ dd, d = some dd → ∃ o, od = some o ∧ h.get? dd = some o) ∧ (d = none → od = none) := by
  obtain ⟨⟨oe, vs, g1, ⟨z1, z2⟩, g3⟩, _⟩ := (show ObjOk P w H h a (ExT (.ref C) d a) from ok a _ ha)
  have nc : PySem.W.notCls oe := by unfold PySem.W.notCls; rw [g3] <;> rfl
  cases d with
  | none => exact ⟨oe, none, ⟨g1, z1, nc, by rw [z2]; trivial⟩, (fun dd e => by cases e), fun _ => rfl⟩
  | some dd =>
    obtain ⟨fs, e⟩ := hd dd rfl
    obtain ⟨mA, hns, _⟩ := (show ObjOk P w H h dd (.xd fs) from ok dd _ e)
    obtain ⟨od, ho, _⟩ := lookIn_ns hns
    exact ⟨oe, some od, ⟨g1, z1, nc, by rw [z2]; exact ho⟩, (fun d' e' => by cases e'; exact ⟨od, rfl, ho⟩), fun e' => by cases e'⟩
/-- what isinstance may be asked of here: None, a kept exception -/
def TyE (K : PySem.W.Frag) (H : Hp) (v : V) (t : Value) : Prop := (v = .non ∧ t = .type "NoneType") ∨ ∃ (a C : Addr) (d : Option Addr), v = .ref a ∧ t = .ref C ∧ H a = some (ExT (.ref C) d a) ∧ (∀ dd, d = some dd → ∃ fs, H dd = some (.xd fs)) ∧ ExK K C ∧
  PySem.W.specialIn K (.builtin "object.__class__") "__get__" = some (some (.builtin "getset_descriptor.__get__")) ∧ PySem.W.takesIn K (.builtin "object.__class__") = some true
section
variable {X : Cx} {pins : List (Addr × Obj)} {σ : L2.St} {H : Hp} {s : Shared}
theorem kitE_of {x : V} {u t : Value} (I : Inv X pins σ H s) (rx : RelV x u) (ty : TyE X.K H x t) : ∃ P : Heap → Prop, PySem.W.KitX X.K u t P ∧ P s.heap ∧ u ≠ .builtin "__main__.__loader__#opaque" := by
  rcases ty with ⟨rfl, rfl⟩ | ⟨a, C, d, rfl, rfl, ha, hd, k, g, tk⟩
  · exact kit_of I rx (.base .non)
  · cases (show u = Value.ref a from rx)
    obtain ⟨ox, od, J, _⟩ := inst_ext I.hok ha hd
    exact ⟨_, PySem.W.kitx_exc k.cl k.ga k.gg k.sub k.ac g tk k.ob, J, fun z => nomatch z⟩
def rIsE1 (K : PySem.W.Frag) : List V → Hp → VK → Prop := fun xs H Q => ∃ (x c : V) (t u : Value) (b : Bool), xs = [x, c] ∧ ClsV c u ∧ TyE K H x t ∧ PySem.W.kitOne K t u = some b ∧ Q (.bl b) H
def rIsET (K : PySem.W.Frag) : List V → Hp → VK → Prop := fun xs H Q => ∃ (x : V) (tp : Addr) (cs : List V) (t : Value) (us : List Value) (b : Bool), xs = [x, .ref tp] ∧ H tp = some (.tup cs) ∧ Paired ClsV cs us ∧ TyE K H x t ∧ PySem.W.kitAny K t us = some b ∧ Q (.bl b) H
theorem call_isE1 : CallR X (.builtin "isinstance") (rIsE1 X.K) := by
  intro pins s σ H xs us Q I r h
  obtain ⟨x, c, t, u, b, rfl, k, ty, e, q⟩ := h
  obtain ⟨u1, u2, rfl, r1, r2⟩ := vals2 r
  obtain rfl := k.eq r2
  obtain ⟨P, Z, p, hx⟩ := kitE_of I r1 ty
  exact PySem.W.kia_one Z I.kIn p e hx fun n => ⟨.bl b, H, I.tok n, rfl, q⟩
theorem call_isET : CallR X (.builtin "isinstance") (rIsET X.K) := by
  intro pins s σ H xs us Q I r h
  obtain ⟨x, tp, cs, t, ws, b, rfl, hT, k, ty, e, q⟩ := h
  obtain ⟨u1, u2, rfl, r1, r2⟩ := vals2 r
  cases (show u2 = Value.ref tp from r2)
  obtain ⟨P, Z, p, hx⟩ := kitE_of I r1 ty
  obtain ⟨_, its, rv, ⟨oc, od, dt, sl⟩, h1, h2, n, h3⟩ := (show ObjOk X.prog X.w H s.heap tp (.tup cs) from I.hok tp _ hT)
  obtain rfl := ClsV.all k rv
  simp only at h2 h3
  subst h2 h3
  exact PySem.W.kia_tup Z I.kIn p h1 e hx fun n => ⟨.bl b, H, I.tok n, rfl, q⟩
end
section
variable {X : Cx} {a : Expr} {es : List Expr} {s : SE} {sup : Str → Str → Bool} {names qs : List Str} {q : Str} {p qp pos tp : Pos} {kk : Nat}
/-- isinstance(x, (X1, X2, ..)): the classes' names -/
def isXD (sup : Str → Str → Bool) (names qs : List Str) : D → Option D
  | .non => some (.bl false)
  | .exc c _ _ => if names.contains c = true then some (.bl (qs.any (sup c))) else none
  | _ => none
def isVE (names : List Str) : D → Option D
  | .non => some (.bl false)
  | .exc c _ _ => if names.contains c = true then some (.bl true) else none
  | _ => none
theorem tyE_rep {K : PySem.W.Frag} {mg : Str → Option Value} (T : ExTab K mg sup names) {H : Hp} {o : Bool} {c : Str} {ns : List Str} {ds : List D} {v : V} {F : List Addr} (hn : c ∈ names) (r : Rep K H o (.exc c ns ds) v F) : ∃ C, clsOf K c = some C ∧ TyE K H v (.ref C) := by
  obtain ⟨_, a, C, d, rfl, h2, h3, h4⟩ := r
  obtain ⟨C', k1, k2, k3, k4⟩ := T.cls c hn
  rw [h2] at k2
  cases k2
  refine ⟨C, h2, .inr ⟨a, C, d, rfl, rfl, h3, fun dd e => ?_, k3, T.gc, T.tk⟩⟩
  rcases h4 with ⟨_, _, e2⟩ | ⟨d1, vs, e1, e2, _⟩
  · rw [e2] at e; cases e
  · rw [e1] at e; cases e; exact ⟨_, e2⟩
theorem dIsE1 (T : ExTab X.K X.mg sup names) (hq : q ∈ names) (ha : PP X a s) (hm : X.mg "isinstance" = none) (hg : Gl X "isinstance" := by rfl) (hgq : Gl X q := by rfl) (hdq : (q == ("__debug__" : Str)) = false := by decide) (hv : bootBuiltins "isinstance" = some (.builtin "isinstance") := by decide +kernel)
    (he : starEach [a, .Name q qp] X.env = (false, eval a X.env) :: starEach [.Name q qp] X.env := by rfl) (he2 : starEach [.Name q qp] X.env = (false, eval (.Name q qp) X.env) :: starEach [] X.env := by rfl) (hpl : (backTo pos (starEach [.Name q qp] X.env)).any (·.1) = false := by rfl) :
    PP X (.Call (.Name "isinstance" p) [a, .Name q qp] [] pos) (s1 (isXD sup names [q]) s) := by
  obtain ⟨Cq, m1, m2, m3, m4⟩ := T.cls q hq
  refine ⟨fun C ρ σ H Fs d k Q E h w => WE.of (pe_callB call_isE1 hg hm hv (pa_cons (we X a) (pa_cons (pe_glob (v := .ref Cq) hgq m1 rfl hdq) pa_nil he2) he) (by decide) (by decide) he hpl) ?_⟩
  obtain ⟨x, kx, h1, h2, rfl⟩ := s1_some h
  refine ha.run C ρ σ H Fs x kx _ E h1 fun v H' F s1 r => ?_
  have fin : ∀ b, d = .bl b → Q (.bl b) H' := fun b e => by subst e; exact w _ H' [] s1 ⟨⟨rfl, rfl⟩, List.nodup_nil, fun a ha => by cases ha⟩
  cases x with
  | non =>
    cases h2
    obtain ⟨rfl, _⟩ := r.rep
    exact ⟨.non, .ref Cq, .type "NoneType", .ref Cq, false, rfl, .own _, .inl ⟨rfl, rfl⟩, m4, fin _ rfl⟩
  | exc c ns ds =>
    have h2 : (if names.contains c = true then some (D.bl ([q].any (sup c))) else none) = some d := h2
    by_cases hc : names.contains c = true
    · rw [if_pos hc] at h2
      cases h2
      have hc' := List.contains_iff_mem.mp hc
      obtain ⟨C1, k1, k2⟩ := tyE_rep T hc' r.rep
      refine ⟨v, .ref Cq, .ref C1, .ref Cq, sup c q, rfl, .own _, k2, T.two c hc' q hq C1 Cq k1 m2, fin _ ?_⟩
      simp
    · rw [if_neg hc] at h2; cases h2
  | _ => cases h2
theorem dIsVE (T : ExTab X.K X.mg sup names) (ha : PP X a s) (hm : X.mg "isinstance" = none) (hmv : X.mg "ValueError" = none) (hg : Gl X "isinstance" := by rfl) (hgq : Gl X "ValueError" := by rfl) (hv : bootBuiltins "isinstance" = some (.builtin "isinstance") := by decide +kernel)
    (hvv : bootBuiltins "ValueError" = some (.type "ValueError") := by decide +kernel)
    (he : starEach [a, .Name "ValueError" qp] X.env = (false, eval a X.env) :: starEach [.Name "ValueError" qp] X.env := by rfl) (he2 : starEach [.Name "ValueError" qp] X.env = (false, eval (.Name "ValueError" qp) X.env) :: starEach [] X.env := by rfl) (hpl : (backTo pos (starEach [.Name "ValueError" qp] X.env)).any (·.1) = false := by rfl) :
    PP X (.Call (.Name "isinstance" p) [a, .Name "ValueError" qp] [] pos) (s1 (isVE names) s) := by
  refine ⟨fun C ρ σ H Fs d k Q E h w => WE.of (pe_callB call_isE1 hg hm hv (pa_cons (we X a) (pa_cons (pe_bltn (v := .ty "ValueError") hgq hmv hvv rfl) pa_nil he2) he) (by decide) (by decide) he hpl) ?_⟩
  obtain ⟨x, kx, h1, h2, rfl⟩ := s1_some h
  refine ha.run C ρ σ H Fs x kx _ E h1 fun v H' F s1 r => ?_
  have fin : ∀ b, d = .bl b → Q (.bl b) H' := fun b e => by subst e; exact w _ H' [] s1 ⟨⟨rfl, rfl⟩, List.nodup_nil, fun a ha => by cases ha⟩
  cases x with
  | non =>
    cases h2
    obtain ⟨rfl, _⟩ := r.rep
    exact ⟨.non, .ty "ValueError", .type "NoneType", .type "ValueError", false, rfl, .ty _, .inl ⟨rfl, rfl⟩, kit_ty (by decide +kernel), fin _ rfl⟩
  | exc c ns ds =>
    have h2 : (if names.contains c = true then some (D.bl true) else none) = some d := h2
    by_cases hc : names.contains c = true
    · rw [if_pos hc] at h2
      cases h2
      have hc' := List.contains_iff_mem.mp hc
      obtain ⟨C1, k1, k2⟩ := tyE_rep T hc' r.rep
      exact ⟨v, .ty "ValueError", .ref C1, .type "ValueError", true, rfl, .ty _, k2, T.ve c hc' C1 k1, fin _ rfl⟩
    · rw [if_neg hc] at h2; cases h2
  | _ => cases h2
/-- a row of classes -/
def PAC (X : Cx) (es : List Expr) (qs : List Str) : Prop := ∀ f : Str → Addr, (∀ q ∈ qs, X.mg q = some (.ref (f q))) → PA X es (fun _ H Q => Q (qs.map fun q => V.ref (f q)) H)
theorem pac_nil : PAC X [] [] := fun f _ => pa_nil
theorem pac_cons (h : PAC X es qs) (hg : Gl X q := by rfl) (hd : (q == ("__debug__" : Str)) = false := by decide) (he : starEach (.Name q qp :: es) X.env = (false, eval (.Name q qp) X.env) :: starEach es X.env := by rfl) : PAC X (.Name q qp :: es) (q :: qs) := fun f hf =>
  pa_cons (pe_glob (v := .ref (f q)) hg (hf q List.mem_cons_self) rfl hd) (h f fun r hr => hf r (List.mem_cons_of_mem _ hr)) he
theorem kitAny_map {K : PySem.W.Frag} {t : Value} {g : Str → Bool} {f : Str → Addr} : ∀ (qs : List Str), (∀ q ∈ qs, PySem.W.kitOne K t (.ref (f q)) = some (g q)) → PySem.W.kitAny K t (qs.map fun q => Value.ref (f q)) = some (qs.any g)
  | [], _ => rfl
  | q :: qs, h => by
    have ih := kitAny_map qs fun r hr => h r (List.mem_cons_of_mem _ hr)
    refine kitAny_cons (h q List.mem_cons_self) (fun hb => ?_) (fun hb => ?_)
    · rw [ih, List.any_cons, hb, Bool.false_or]
    · rw [List.any_cons, hb, Bool.true_or]
theorem clsV_map {f : Str → Addr} : ∀ qs : List Str, Paired ClsV (qs.map fun q => V.ref (f q)) (qs.map fun q => Value.ref (f q))
  | [] => .nil
  | q :: qs => .cons (.own _) (clsV_map qs)
theorem dIsET (T : ExTab X.K X.mg sup names) (hq : ∀ q ∈ qs, q ∈ names) (hl : qs.length ≤ 1000) (ha : PP X a s) (hes : PAC X es qs) (hm : X.mg "isinstance" = none) (hg : Gl X "isinstance" := by rfl) (hv : bootBuiltins "isinstance" = some (.builtin "isinstance") := by decide +kernel)
    (he : starEach [a, .Tuple es kk tp] X.env = (false, eval a X.env) :: starEach [.Tuple es kk tp] X.env := by rfl) (he2 : starEach [.Tuple es kk tp] X.env = (false, eval (.Tuple es kk tp) X.env) :: starEach [] X.env := by rfl) (hpl : (backTo pos (starEach [.Tuple es kk tp] X.env)).any (·.1) = false := by rfl) :
    PP X (.Call (.Name "isinstance" p) [a, .Tuple es kk tp] [] pos) (s1 (isXD sup names qs) s) := by
  have ex : ∀ q : Str, ∃ C : Addr, q ∈ qs → X.mg q = some (.ref C) ∧ clsOf X.K q = some C ∧ PySem.W.kitOne X.K (.type "NoneType") (.ref C) = some false := fun q => by
    by_cases h : q ∈ qs
    · obtain ⟨C, h1, h2, _, h4⟩ := T.cls q (hq q h)
      exact ⟨C, fun _ => ⟨h1, h2, h4⟩⟩
    · exact ⟨0, fun z => absurd z h⟩
  let f : Str → Addr := fun q => (ex q).choose
  have hf : ∀ q ∈ qs, X.mg q = some (.ref (f q)) ∧ clsOf X.K q = some (f q) ∧ PySem.W.kitOne X.K (.type "NoneType") (.ref (f q)) = some false := fun q hq => (ex q).choose_spec hq
  refine ⟨fun C ρ σ H Fs d k Q E h w => WE.of (pe_callB call_isET hg hm hv (pa_cons (we X a) (pa_cons (pe_tup (hes f fun q hq => (hf q hq).1)) pa_nil he2) he) (by decide) (by decide) he hpl) ?_⟩
  obtain ⟨x, kx, h1, h2, rfl⟩ := s1_some h
  refine ha.run C ρ σ H Fs x kx _ E h1 fun v H' F s1 r => ?_
  refine ⟨by rw [List.length_map, sizeLine_eq]; omega, fun tpa htp => ?_⟩
  have s2 : Same H' (upd H' tpa (.tup (qs.map fun q => V.ref (f q)))) := same_new htp
  have fin : ∀ b, d = .bl b → Q (.bl b) (upd H' tpa (.tup (qs.map fun q => V.ref (f q)))) := fun b e => by subst e; exact w _ _ [] (s1.trans s2) ⟨⟨rfl, rfl⟩, List.nodup_nil, fun a ha => by cases ha⟩
  cases x with
  | non =>
    cases h2
    obtain ⟨rfl, _⟩ := r.rep
    refine ⟨.non, tpa, _, .type "NoneType", _, false, rfl, upd_same, clsV_map qs, .inl ⟨rfl, rfl⟩, ?_, fin _ rfl⟩
    rw [kitAny_map (g := fun _ => false) qs fun q hq => (hf q hq).2.2]
    congr 1
    induction qs with
    | nil => rfl
    | cons _ _ _ => simp
  | exc c ns ds =>
    have h2 : (if names.contains c = true then some (D.bl (qs.any (sup c))) else none) = some d := h2
    by_cases hc : names.contains c = true
    · rw [if_pos hc] at h2
      cases h2
      have hc' := List.contains_iff_mem.mp hc
      obtain ⟨C1, k1, k2⟩ := tyE_rep T hc' (r.same s2).rep
      exact ⟨v, tpa, _, .ref C1, _, qs.any (sup c), rfl, upd_same, clsV_map qs, k2, kitAny_map qs fun q hq' => T.two c hc' q (hq q hq') C1 (f q) k1 (hf q hq').2.1, fin _ rfl⟩
    · rw [if_neg hc] at h2; cases h2
  | _ => cases h2
end
end DL
end DLsec42
set_option maxRecDepth 100000
noncomputable section DLsec43
/-! DL43: e.word of a kept exception; calls of defs that may raise where they do not; exceptions in plain functions. -/
namespace DL
open PySem PySem.Spec PyProof.Rows L2
section
variable {X : Cx} {C : Ct} {ρ : DEnv} {σ : L2.St} {H : Hp} {Fs : Nat → List Addr} {a e : Expr} {es : List Expr} {s : SE} {t : SA} {sup : Str → Str → Bool} {names cs : List Str} {fn : Str} {p pos : Pos}
def atD (cs : List Str) (fn : Str) : D → Option D
  | .exc c [f] [d] => if cs.contains c = true ∧ okP (f = fn) = true then some d else none
  | _ => none
theorem dAttr (T : ExTab X.K X.mg sup names) (hc : ∀ c ∈ cs, c ∈ names ∧ ∀ C1, clsOf X.K c = some C1 → PySem.W.findIn X.K (.ref C1) fn = some none) (ha : PP X a s) (hb : attributeBase a fn X.env (eval a X.env) = eval a X.env := by rfl) : PP X (.Attribute a fn pos) (s1 (atD cs fn) s) := by
  refine ⟨fun C ρ σ H Fs d k Q E h q pins st I => ?_⟩
  obtain ⟨x, kx, h1, h2, rfl⟩ := s1_some h
  refine attr_of hb (thn (ha.run C ρ σ H Fs x kx (fun v H' => ∃ F, Same H H' ∧ RepR X.K H H' Fs kx x v F) E h1 (fun v H' F s r => ⟨F, s, r⟩) pins st I) fun u s1 hh => ?_)
  obtain ⟨v, H1, I1, rx, F, sm, r⟩ := hh
  unfold atD at h2
  split at h2
  · rename_i c f d'
    split at h2
    · rename_i hcond
      cases h2
      obtain ⟨hcc, hff⟩ := hcond
      obtain rfl := okP_iff.mp hff
      obtain ⟨hn, hno⟩ := hc c (List.contains_iff_mem.mp hcc)
      obtain ⟨C0, m1, m2, m3, _⟩ := T.cls c hn
      obtain ⟨_, a1, C1, dd0, rfl, k2, k3, k4⟩ := r.rep
      rw [m2] at k2
      cases k2
      obtain rfl : u = Value.ref a1 := rx
      rcases k4 with ⟨z, _⟩ | ⟨dd, vs, rfl, e2, him, e3⟩
      · cases z
      · obtain ⟨w, ws, G1, G2, rfl, eg, e4, e5⟩ := e3
        obtain ⟨rfl, rfl⟩ := List.append_eq_nil_iff.mp eg.symm
        obtain ⟨rfl, _⟩ := e5
        obtain ⟨ox, od, J, jd, _⟩ := inst_ext I1.hok k3 (fun d1 e1 => by cases e1; exact ⟨_, e2⟩)
        obtain ⟨o, rfl, ho⟩ := jd dd rfl
        obtain ⟨mA, hns, hr⟩ := (show ObjOk X.prog X.w H1 s1.heap dd (.xd ([f].zip [w])) from I1.hok dd _ e2)
        obtain ⟨od2, ho2, hl⟩ := lookIn_ns hns
        rw [ho] at ho2
        cases ho2
        have hlk : List.lookup f ([f].zip [w]) = some w := by simp [List.lookup]
        obtain ⟨uu, hu, ru⟩ := RelO.some_of (v := w) (o := mA f) (by rw [← hlk]; exact hr f)
        refine HandSPX.exc_get I1.kIn J m3.ga m3.gg m3.sub (PySem.W.findObj_own m3.hd (hno _ m2) rfl (by rw [hl, hu])) (handed_of ru) ⟨w, H1, I1.tok _, ru, ?_⟩
        have him' : d.imm = true := by
          have : imms [d] = true := him
          rw [imms_cons, Bool.and_eq_true] at this
          exact this.1
        exact q w H1 [] sm ⟨(Rep.im d w [] him' e4).2 true, List.nodup_nil, fun b hb => by cases hb⟩
    · cases h2
  · cases h2
/-- a def that may raise is called where it does not -/
theorem dCalX {k n : Nat} {io : List Bool} {fs : FS} {x : Str} (c : Cal X.prog X.w X.K X.mg X.base (L2.CX X.prog X.w) x k io fs) (hr : Room k X.A) (ha : PPA X (e :: es) t) (hn : io.length = n := by rfl)
    (hio : io.all (!·) = true := by rfl) (hg : Gl X x := by rfl) (hdb : (x == ("__debug__" : Str)) = false := by decide) (he : starEach (e :: es) X.env = (false, eval e X.env) :: starEach es X.env := by rfl) (hpl : (backTo pos (starEach es X.env)).any (·.1) = false := by rfl) :
    PP X (.Call (.Name x p) (e :: es) [] pos) (sCallF (noEx fs) n t) := by
  obtain ⟨f, fd, ps, F, hm, hk, hb⟩ := c
  refine ⟨fun C ρ σ H Fs d kk Q E h q => WE.of (pe_callS F hr hg hm hk hb (fun σ => passAt takes0 σ) (wa X _) hdb he hpl) ?_⟩
  obtain ⟨l, us, h1, h2, h3, rfl⟩ := sCallF_some h
  refine ha.run C ρ σ H Fs l _ E h1 fun vs H1 Gs s1 r => ?_
  have h4 : fs (dsOf l) = .ok d us := by
    unfold noEx at h3
    cases hz : fs (dsOf l) with
    | ok d' us' => rw [hz] at h3; exact h3
    | ex z => rw [hz] at h3; cases h3
    | bad => rw [hz] at h3; cases h3
  exact call_go hio (h2.trans hn.symm) r s1 h4 q
end
/-! ### plain functions -/
section
variable {ps : List Pt} {τ τ1 τ2 ω : Type} {XE : DEnv → Prop} {X : Out → ω → Prop} {rest : SS} {ma : R D} {sa : SE}
theorem tl_raise {x : Str} {m : R ω} (hx : ∀ ρ, EPs ps ρ → XE ρ) (hm : m = .ex ⟨x, []⟩) : TL (sSeq (sRaise x) rest) ps X XE m := fun ρ e => by
  subst hm
  exact ⟨ρ, seq_ex rfl, hx ρ e⟩
def raiseI {α : Type} (x fn : Str) (m : R D) : R α := m.bnd fun d => if d.imm = true then .ex ⟨x, [(fn, d)]⟩ else .bad
theorem tl_raiseI {x fn : Str} (hx : ∀ ρ, EPs ps ρ → XE ρ) (ha : Ee sa ps ma) : TL (sSeq (sRaiseI x fn sa) rest) ps X XE (raiseI x fn ma) := fun ρ e =>
  post_bnd (ha ρ e) nox fun d ⟨k, ed⟩ => by
    by_cases h : d.imm = true
    · rw [if_pos h]
      refine ⟨ρ, seq_ex ?_, hx ρ e⟩
      unfold sRaiseI
      rw [ed]
      simp only [h, if_true]
    · rw [if_neg h]; trivial
def callR (p : List D → R (D × List D)) (m : R (List D)) : R (D × Unit) := m.bnd fun ds => (p ds).bnd fun r => .ok (r.1, ())
theorem ar1_bad {α : Type} {f : D → R α} : ∀ ds : List D, ds.length ≠ 1 → ar1 f ds = .bad
  | [], _ => rfl
  | [_], h => absurd rfl h
  | _ :: _ :: _, _ => rfl
theorem ar2_bad {α : Type} {f : D → D → R α} : ∀ ds : List D, ds.length ≠ 2 → ar2 f ds = .bad
  | [], _ => rfl
  | [_], _ => rfl
  | [_, _], h => absurd rfl h
  | _ :: _ :: _ :: _, _ => rfl
theorem ar3_bad {α : Type} {f : D → D → D → R α} : ∀ ds : List D, ds.length ≠ 3 → ar3 f ds = .bad
  | [], _ => rfl
  | [_], _ => rfl
  | [_, _], _ => rfl
  | [_, _, _], h => absurd rfl h
  | _ :: _ :: _ :: _ :: _, _ => rfl
theorem ar4_bad {α : Type} {f : D → D → D → D → R α} : ∀ ds : List D, ds.length ≠ 4 → ar4 f ds = .bad
  | [], _ => rfl
  | [_], _ => rfl
  | [_, _], _ => rfl
  | [_, _, _], _ => rfl
  | [_, _, _, _], h => absurd rfl h
  | _ :: _ :: _ :: _ :: _ :: _, _ => rfl
theorem ar5_bad {α : Type} {f : D → D → D → D → D → R α} : ∀ ds : List D, ds.length ≠ 5 → ar5 f ds = .bad
  | [], _ => rfl
  | [_], _ => rfl
  | [_, _], _ => rfl
  | [_, _, _], _ => rfl
  | [_, _, _, _], _ => rfl
  | [_, _, _, _, _], h => absurd rfl h
  | _ :: _ :: _ :: _ :: _ :: _ :: _, _ => rfl
theorem xe_callR {gf : FS} {io : List Bool} {p : List D → R (D × List D)} {n : Nat} {t : SA} {m : R (List D)} (c : FRef gf io p) (ht : Al t ps m) (hx : ∀ ρ, EPs ps ρ → XE ρ) (hb : ∀ ds : List D, ds.length ≠ n → p ds = .bad) (hn : io.length = n := by rfl) : Ex (sCallR gf n t) ps XE (callR p m) (fun _ => ps) := fun ρ e =>
  post_bnd (ht ρ e) nox fun ds ⟨l, h1, h2⟩ => by
    have hc := c ds
    cases hp : p ds with
    | bad => trivial
    | ex x =>
      rw [hp] at hc
      show ∃ ρ', sCallR gf n t ρ = .ex x ρ' ∧ XE ρ'
      by_cases hl : l.length = n
      · refine ⟨ρ, ?_, hx ρ e⟩
        unfold sCallR
        rw [h1]
        simp only [hl, if_true, h2]
        rw [show gf ds = .ex x from hc]
      · rw [hb ds (by rw [← h2]; simpa [dsOf] using hl)] at hp
        cases hp
    | ok r =>
      rw [hp] at hc
      obtain ⟨hl, us, h3, h4, h5⟩ := hc
      refine ⟨ρ, ?_, e⟩
      have hl' : l.length = n := by rw [← hn, ← hl, ← h2]; simp [dsOf]
      unfold sCallR
      rw [h1]
      simp only [hl', if_true, h2]
      rw [h3]
/-- called where it does not raise -/
theorem ef_callX {gf : FS} {io : List Bool} {p : List D → R (D × List D)} {n : Nat} {t : SA} {m : R (List D)} (c : FRef gf io p) (ht : Al t ps m) (hn : io.length = n := by rfl) : Ef (sCallF (noEx gf) n t) ps (callP p m) := fun ρ e =>
  post_bnd (ht ρ e) nox fun ds ⟨l, h1, h2⟩ => by
    have hc := c ds
    cases hp : p ds with
    | bad => trivial
    | ex x => trivial
    | ok r =>
      rw [hp] at hc
      obtain ⟨hl, us, h3, h4, h5⟩ := hc
      have hl' : l.length = n := by rw [← hn, ← hl, ← h2]; simp [dsOf]
      show sCallF (noEx gf) n t ρ = some (r.1, none)
      unfold sCallF
      rw [h1]
      simp only [hl', if_true, h2]
      rw [show noEx gf ds = .ok r.1 us by unfold noEx; rw [h3]]
/-- try: .. except .. as e: y = e -/
def tryJ {τ : Type} (cs : List Str) (m : R τ) (h : D → τ) : R τ := match m with
  | .ok t => .ok t
  | .ex x => if cs.contains x.cls = true then .ok (h (.exc x.cls (x.fs.map (·.1)) (x.fs.map (·.2)))) else .bad
  | .bad => .bad
theorem tl_try {cs : List Str} {i j : Nat} {pi pj : Pt} {t : SS} {post : τ → List Pt} {mb : R τ} {h : D → τ} {k : τ → R ω} (hb : TL t ps (XJ post) (fun ρ => EPs ps ρ) mb) (hij : i ≠ j) (hi : ps[i]? = some pi) (vi : pi.na = true) (hj : ps[j]? = some pj) (vj : pj.na = true) (hw : ∀ d, Wk ((ps.set i .u).set j (.o d)) (post (h d))) (hk : ∀ t, TL rest (post t) X XE (k t)) :
    TL (sSeq (sTry cs i j t) rest) ps X XE ((tryJ cs mb h).bnd k) :=
  tl_step (P := fun t ρ' => EPs (post t) ρ') (fun ρ e => by
    have q := hb ρ e
    unfold tryJ
    cases mb with
    | bad => trivial
    | ok t1 =>
      obtain ⟨ρ', h1, h2⟩ := q
      exact ⟨ρ', by unfold sTry; rw [h1], h2⟩
    | ex x =>
      obtain ⟨ρ', h1, h2⟩ := q
      show (if cs.contains x.cls = true then _ else _ : R τ).post _ _
      by_cases hc : cs.contains x.cls = true
      · rw [if_pos hc]
        obtain ⟨xi, ei, ni⟩ := h2.na hi vi
        have e1 : EPs (ps.set i .u) (ρ'.set i none) := h2.set fun d z => by cases z
        have hj' : (ps.set i .u)[j]? = some pj := by rw [List.getElem?_set_ne hij]; exact hj
        obtain ⟨ρ2, s2⟩ : ∃ ρ2, setS j (.exc x.cls (x.fs.map (·.1)) (x.fs.map (·.2))) none (ρ'.set i none) = some ρ2 := ⟨_, e1.setS hj' vj⟩
        have s3 := e1.setS (d := .exc x.cls (x.fs.map (·.1)) (x.fs.map (·.2))) hj' vj
        refine ⟨_, ?_, hw _ _ (e1.set (show Pt.ok (.o (.exc x.cls (x.fs.map (·.1)) (x.fs.map (·.2)))) (some (.exc x.cls (x.fs.map (·.1)) (x.fs.map (·.2)), .own)) from rfl))⟩
        unfold sTry
        rw [h1]
        simp only [hc, if_true]
        rw [s3]
        simp only
        rw [if_pos]
        exact okP_iff.mpr fun d z => ni d (by rw [ei] at z; exact Option.some.inj z)
      · rw [if_neg hc]; trivial) (fun t ρ' e => hk t ρ' e)
section
variable {N : Nat} {b : SS}
theorem fref1X {o1 : Bool} {f : D → R (D × List D)} (h : ∀ x1, TL b (fps [o1] N [x1]) (XF [o1]) (fun _ => True) (f x1)) : FRef (fnOf N [o1] b) [o1] (ar1 f) :=
  fref (fun ds hd => by match ds, hd with | [x1], _ => exact h x1) fun ds hd => ar1_bad ds hd
theorem fref2X {o1 o2 : Bool} {f : D → D → R (D × List D)} (h : ∀ x1 x2, TL b (fps [o1, o2] N [x1, x2]) (XF [o1, o2]) (fun _ => True) (f x1 x2)) : FRef (fnOf N [o1, o2] b) [o1, o2] (ar2 f) :=
  fref (fun ds hd => by match ds, hd with | [x1, x2], _ => exact h x1 x2) fun ds hd => ar2_bad ds hd
theorem fref3X {o1 o2 o3 : Bool} {f : D → D → D → R (D × List D)} (h : ∀ x1 x2 x3, TL b (fps [o1, o2, o3] N [x1, x2, x3]) (XF [o1, o2, o3]) (fun _ => True) (f x1 x2 x3)) : FRef (fnOf N [o1, o2, o3] b) [o1, o2, o3] (ar3 f) :=
  fref (fun ds hd => by match ds, hd with | [x1, x2, x3], _ => exact h x1 x2 x3) fun ds hd => ar3_bad ds hd
theorem fref4X {o1 o2 o3 o4 : Bool} {f : D → D → D → D → R (D × List D)} (h : ∀ x1 x2 x3 x4, TL b (fps [o1, o2, o3, o4] N [x1, x2, x3, x4]) (XF [o1, o2, o3, o4]) (fun _ => True) (f x1 x2 x3 x4)) : FRef (fnOf N [o1, o2, o3, o4] b) [o1, o2, o3, o4] (ar4 f) :=
  fref (fun ds hd => by match ds, hd with | [x1, x2, x3, x4], _ => exact h x1 x2 x3 x4) fun ds hd => ar4_bad ds hd
theorem fref5X {o1 o2 o3 o4 o5 : Bool} {f : D → D → D → D → D → R (D × List D)} (h : ∀ x1 x2 x3 x4 x5, TL b (fps [o1, o2, o3, o4, o5] N [x1, x2, x3, x4, x5]) (XF [o1, o2, o3, o4, o5]) (fun _ => True) (f x1 x2 x3 x4 x5)) : FRef (fnOf N [o1, o2, o3, o4, o5] b) [o1, o2, o3, o4, o5] (ar5 f) :=
  fref (fun ds hd => by match ds, hd with | [x1, x2, x3, x4, x5], _ => exact h x1 x2 x3 x4 x5) fun ds hd => ar5_bad ds hd
end
end
end DL
end DLsec43
set_option maxRecDepth 100000
noncomputable section DLsec44
/-! DL44: the facts about the exception classes, from what the text's top has laid. -/
namespace DL
open PySem PySem.Spec PyProof.Rows L2
/-- each under itself and under the base of all -/
def supC (q r : Str) : Bool := decide (q = r) || decide (r = Str.ofString "CoverError")
section
variable {K : PySem.W.Frag} {h : Heap} {mg : Str → Option Value} {P : Program} {w : World} {base : Heap}
theorem mg_cls (X : K.In h) (G : h.Ns mainGlobals mg) {q : Str} {C : Addr} (e : clsOf K q = some C) : mg q = some (.ref C) := by
  unfold clsOf at e
  split at e
  · rename_i C' h1
    cases e
    exact PySem.W.mg_of X G h1
  · cases e
def exRow (K : PySem.W.Frag) (l : List (Str × Addr)) (p : Str × Addr) : Bool := decide (clsOf K p.1 = some p.2) && (exkB K p.2 && (decide (PySem.W.kitOne K (.type "NoneType") (.ref p.2) = some false) && (decide (PySem.W.kitOne K (.ref p.2) (.type "ValueError") = some true) &&
  l.all fun q => decide (PySem.W.kitOne K (.ref p.2) (.ref q.2) = some (supC p.1 q.1)))))
def tabB (K : PySem.W.Frag) (l : List (Str × Addr)) : Bool := decide (PySem.W.specialIn K (.builtin "object.__class__") "__get__" = some (some (.builtin "getset_descriptor.__get__"))) && (decide (PySem.W.takesIn K (.builtin "object.__class__") = some true) && l.all (exRow K l))
theorem tab_ok (X : K.In h) (G : h.Ns mainGlobals mg) {l : List (Str × Addr)} (hb : tabB K l = true) : ExTab K mg supC (l.map (·.1)) := by
  simp only [tabB, Bool.and_eq_true, decide_eq_true_eq, List.all_eq_true] at hb
  obtain ⟨h1, h2, h3⟩ := hb
  have row : ∀ p ∈ l, clsOf K p.1 = some p.2 ∧ exkB K p.2 = true ∧ PySem.W.kitOne K (.type "NoneType") (.ref p.2) = some false ∧ PySem.W.kitOne K (.ref p.2) (.type "ValueError") = some true ∧ ∀ q ∈ l, PySem.W.kitOne K (.ref p.2) (.ref q.2) = some (supC p.1 q.1) := fun p hp => by
    have := h3 p hp
    simpa only [exRow, Bool.and_eq_true, decide_eq_true_eq, List.all_eq_true] using this
  refine ⟨h1, h2, fun q hq => ?_, fun q hq r hr C D e1 e2 => ?_, fun q hq C e => ?_⟩
  · obtain ⟨p, hp, rfl⟩ := List.mem_map.mp hq
    obtain ⟨r1, r2, r3, _⟩ := row p hp
    exact ⟨p.2, mg_cls X G r1, r1, exkB_ok r2, r3⟩
  · obtain ⟨p, hp, rfl⟩ := List.mem_map.mp hq
    obtain ⟨p', hp', rfl⟩ := List.mem_map.mp hr
    obtain ⟨r1, _, _, _, r5⟩ := row p hp
    obtain ⟨s1, _⟩ := row p' hp'
    rw [r1] at e1; cases e1
    rw [s1] at e2; cases e2
    exact r5 p' hp'
  · obtain ⟨p, hp, rfl⟩ := List.mem_map.mp hq
    obtain ⟨r1, _, _, r4, _⟩ := row p hp
    rw [r1] at e; cases e
    exact r4
/-- CoverError takes each -/
def cvB (K : PySem.W.Frag) (l : List (Str × Addr)) : Bool := (clsOf K "CoverError").any fun C0 => l.all fun p => decide (clsOf K p.1 = some p.2) && decide (PySem.W.exmOne K (.ref p.2) (.ref C0) = some true)
structure CvX (K : PySem.W.Frag) (mg : Str → Option Value) (names : List Str) : Prop where
  ex : ∃ C0 : Addr, mg "CoverError" = some (.ref C0) ∧ ∀ q ∈ names, ∀ C1 : Addr, clsOf K q = some C1 → PySem.W.exmOne K (.ref C1) (.ref C0) = some true
theorem cv_ok (X : K.In h) (G : h.Ns mainGlobals mg) {l : List (Str × Addr)} (hb : cvB K l = true) : CvX K mg (l.map (·.1)) := by
  unfold cvB at hb
  obtain ⟨C0, h0, hb⟩ := Option.any_eq_true _ _ |>.mp hb
  simp only [List.all_eq_true, Bool.and_eq_true, decide_eq_true_eq] at hb
  refine ⟨C0, mg_cls X G h0, fun q hq C1 e => ?_⟩
  obtain ⟨p, hp, rfl⟩ := List.mem_map.mp hq
  obtain ⟨r1, r2⟩ := hb p hp
  rw [r1] at e; cases e
  exact r2
/-- classes without an initialiser -/
def plB (K : PySem.W.Frag) (x : Str) : Bool := (clsOf K x).any fun C => PySem.W.excIn K C [.type "ValueError", .type "Exception", .type "BaseException", .type "object"] "ValueError.__new__" && (PySem.W.keepIn K (.ref C) && (decide (PySem.W.subIn K (.ref C) (.type "BaseException") = some true) && decide (PySem.W.typeIn K (.ref C) = some (.type "type"))))
theorem pl_ok (X : K.In h) (G : h.Ns mainGlobals mg) {x : Str} (hb : plB K x = true) : PlainX K mg x := by
  unfold plB at hb
  obtain ⟨C, h0, hb⟩ := Option.any_eq_true _ _ |>.mp hb
  simp only [Bool.and_eq_true, decide_eq_true_eq] at hb
  exact ⟨C, mg_cls X G h0, h0, hb.1, hb.2.1, hb.2.2.1, hb.2.2.2⟩
/-- the names that a class's instances keep are no attributes of the class -/
def atB (K : PySem.W.Frag) (fn : Str) (l : List Str) : Bool := l.all fun q => (clsOf K q).any fun C => decide (PySem.W.findIn K (.ref C) fn = some none)
theorem at_ok {fn : Str} {l : List Str} (hb : atB K fn l = true) : ∀ c ∈ l, ∀ C1, clsOf K c = some C1 → PySem.W.findIn K (.ref C1) fn = some none := fun c hc C1 e => by
  have := List.all_eq_true.mp hb c hc
  rw [e] at this
  simpa using this
/-- the base class's initialiser -/
def bsB (K : PySem.W.Frag) (x : Str) : Bool := (clsOf K x).any fun C => decide (PySem.W.specialIn K (.ref C) "__getattribute__" = some (some (.builtin "type.__getattribute__"))) && (PySem.W.readsIn K C (.type "type") && (match PySem.W.findCls K (.ref C) (.type "type") "__init__" with
  | some (.val v) => v == .builtin "ValueError.__init__"
  | _ => false))
theorem bs_ok (X : K.In h) (G : h.Ns mainGlobals mg) {x : Str} (hb : bsB K x = true) : BaseX K mg x := by
  unfold bsB at hb
  obtain ⟨C, h0, hb⟩ := Option.any_eq_true _ _ |>.mp hb
  simp only [Bool.and_eq_true, decide_eq_true_eq] at hb
  obtain ⟨h1, h2, h3⟩ := hb
  refine ⟨C, mg_cls X G h0, h1, h2, ?_⟩
  split at h3
  · rename_i v e
    rw [e, beq_iff_eq.mp h3]
  · cases h3
/-- classes with an initialiser -/
def oexB (K : PySem.W.Frag) (C : Addr) : Bool := match K.lookup C with
  | some ⟨.type "type", _, .cls cd, sl⟩ => (match cd.mro, sl.toList with
    | .ref C' :: bm, [_, _, _, _, some (.builtin n), _] => C' == C && (n == "ValueError.__new__" && (!cd.hasDel && (cd.hasDict && PySem.HandSPX.refsVE bm)))
    | _, _ => false)
  | _ => false
theorem oexB_ok {C : Addr} (q : oexB K C = true) : ∃ nm q N bs bm sn sub ab col dd k0 k1 k2 k3 k5, K.lookup C = some (excClassObj nm q C N bs bm true sn sub ab col dd k0 k1 k2 k3 k5 "ValueError.__new__") ∧ PySem.HandSPX.refsVE bm = true := by
  unfold oexB at q
  split at q
  · rename_i dd cd sl ho
    split at q
    · rename_i C' bm k0 k1 k2 k3 n k5 hm hs
      simp only [Bool.and_eq_true, beq_iff_eq, Bool.not_eq_true'] at q
      obtain ⟨rfl, rfl, hdel, hdict, hr⟩ := q
      obtain ⟨nm, bs, mro, ns, qn, hd, sn, sub, ab, col, del⟩ := cd
      dsimp only at hm hdel hdict
      subst hm hdel hdict
      have hsl : sl = #[k0, k1, k2, k3, some (.builtin "ValueError.__new__"), k5] := by
        obtain ⟨l⟩ := sl
        simp only at hs
        rw [hs]
      subst hsl
      exact ⟨nm, qn, ns, bs, bm, sn, sub, ab, col, dd, k0, k1, k2, k3, k5, ho, hr⟩
    · cases q
  · cases q
def inB (K : PySem.W.Frag) (x fn : Str) (f : Addr) : Bool := (clsOf K x).any fun C => oexB K C && (decide (PySem.W.findIn K (.ref C) "__setattr__" = some (some (.builtin "object.__setattr__"))) && (decide (PySem.W.subIn K (.ref C) (.type "BaseException") = some true) && (decide (PySem.W.typeIn K (.ref C) = some (.type "type")) &&
  (PySem.W.keepIn K (.ref C) && (decide (PySem.W.findIn K (.ref C) fn = some none) && (decide (PySem.W.findIn K (.ref C) "__init__" = some (some (.ref f))) && decide (PySem.W.typeIn K (.ref f) = some (.type "function"))))))))
theorem in_ok (X : K.In h) (G : h.Ns mainGlobals mg) {x fn : Str} {f : Addr} {fd : FuncData} (hb : inB K x fn f = true) (hF : ∀ C : Addr, FnOk P w K mg base CX0 1 f fd ["self", fn] (spInit K C fn)) (hB : Binds K fd ["self", fn] []) : InitX P w K mg base x fn := by
  unfold inB at hb
  obtain ⟨C, h0, hb⟩ := Option.any_eq_true _ _ |>.mp hb
  simp only [Bool.and_eq_true, decide_eq_true_eq] at hb
  obtain ⟨h1, h2, h3, h4, h5, h6, h7, h8⟩ := hb
  exact ⟨C, f, fd, mg_cls X G h0, h0, ⟨oexB_ok h1, h2, h3, h4, h5⟩, h6, h7, h8, hF C, hB⟩
end
end DL
end DLsec44
set_option maxRecDepth 100000
noncomputable section DLsec45
/-! DL45: a comparison whose parts write, as a test. -/
namespace DL
open PySem PySem.Spec PyProof.Rows L2
section
variable {X : Cx} {a b : Expr} {fa : SX → DEnv → PO} {sb : SX} {pos : Pos}
theorem xTCmp {op : CmpOp} {f : D → D → Option D} (o : OpD X (compareOp op) f) (ha : PF X a fa) (hb : PX X b sb) (hm : behindInMarks op b = false := by first | exact nomark _ (by decide) (by decide) | rfl) : PXT X (.Compare a [op] [b] pos) (sXB (sOpX f (fa sb))) := by
  obtain ⟨r, hr, hf⟩ := o
  refine ⟨fun C W ρ σ H Fs Q tk E h => WT.of (pt_cmpR hr (we X a) (we X b) hm) (op_go hf ha hb tk E ?_)⟩
  unfold sXB at h
  cases hs : sOpX f (fa sb) ρ with
  | bad => rw [hs] at h; exact h.elim
  | ex x ρ' => rw [hs] at h; exact h
  | ok d k ρ' =>
    rw [hs] at h
    cases d with
    | bl b =>
      intro v H' F Fs' E' sh r
      refine ⟨b, ?_, h H' Fs' E'⟩
      cases k with
      | none => exact r.1.1
      | some R => exact r.1.1
    | _ => exact h.elim
end
end DL
end DLsec45
set_option maxRecDepth 100000
set_option maxHeartbeats 2000000
noncomputable section DLsec46
/-! DL46: C.join(e).replace(C1, C2, n). -/
namespace DL
open PySem PySem.Spec PyProof.Rows L2
open PySem.Builtin PySem.Builtin.Str
/-- the first n of the places -/
def replN (x y z : Str) (n : Int) : Str :=
  if ((occurrences x y 0 x.length n.toNat).isEmpty || (y.length == 0 && z.length == 0)) = true then x
  else glued z (partsBetween x (occurrences x y 0 x.length n.toNat) y.length)
theorem gives_replN (x y z : Str) (n : Int) (t u v k : Tok) (h0 : 0 ≤ n) (h1 : n ≤ 1000)
    (hf : (u == 0 || v == 0) = false ∧ (u == v) = false ∧ (y == z) = false ∧ tooLong (x.length + (occurrences x y 0 x.length n.toNat).length * z.length) = false) :
    Gives («str.replace» ⟨[.str x t, .str y u, .str z v, .int n k], []⟩) (if ((occurrences x y 0 x.length n.toNat).isEmpty || (y.length == 0 && z.length == 0)) = true then .val (.str x t) else .str (glued z (partsBetween x (occurrences x y 0 x.length n.toNat) y.length))) := by
  have hk : (decide (n < -(2 ^ 63 : Int)) || decide (n ≥ 2 ^ 63)) = false := by
    rw [Bool.or_eq_false_iff]
    exact ⟨decide_eq_false (by omega), decide_eq_false (by omega)⟩
  show Gives (do let limit ← countLimit "str.replace" (some (.int n k)) (x.length + 1); _) _
  rw [countLimit_int "str.replace" n k (x.length + 1) hk, if_neg (by omega : ¬ n < 0)]
  show Gives (if ((occurrences x y 0 x.length n.toNat).isEmpty || (y.length == 0 && z.length == 0)) = true then (do rule "str.replace.nothing"; ret (.str x t)) else
          (do let same ← isSame (.str y u) (.str z v)
              if same = true then (do rule "str.replace.old-is-new"; ret (.str x t)) else
              if tooLong (x.length + (occurrences x y 0 x.length n.toNat).length * z.length) = true then unsupported "str.replace:memory" else
              retStr (glued z (partsBetween x (occurrences x y 0 x.length n.toNat) y.length)))) _
  cases hc : ((occurrences x y 0 x.length n.toNat).isEmpty || (y.length == 0 && z.length == 0))
  · obtain ⟨e0, huv, hyz, hl⟩ := hf
    rw [isSame_str_other y z u v e0 huv hyz, hl]
    exact .of_eq rfl
  · exact .rule (.of_eq rfl)
theorem replN_len (x y z : Str) (n : Int) : (replN x y z n).length ≤ x.length + (occurrences x y 0 x.length n.toNat).length * z.length := by
  unfold replN
  split
  · omega
  · have hy : (glued y (partsBetween x (occurrences x y 0 x.length n.toNat) y.length)).length = x.length := by rw [StrLaws.glued_between_self]
    rw [size_glued, length_partsBetween, Nat.add_sub_cancel] at hy
    rw [size_glued, length_partsBetween, Nat.add_sub_cancel]
    omega
section
variable {prog : Program} {w : World} {A : Around} {E : Value → Shared → Prop} {s : Shared} {x y z : Str} {t u v k : Tok} {n : Int} {Q : Value → Shared → Prop}
theorem replaceN (h0 : 0 ≤ n) (h1 : n ≤ 1000) (hu : u ≠ 0) (hv : v ≠ 0) (huv : u ≠ v) (hyz : (y == z) = false) (hb : x.length + 1000 * z.length ≤ 16777216)
    (hq : ∀ t' k, Q (.str (replN x y z n) t') { s with toks := k }) : wpAny (model prog w) A (call (.builtin "str.replace") [.str x t, .str y u, .str z v, .int n k]) Q E s := by
  have hoc : (occurrences x y 0 x.length n.toNat).length * z.length ≤ 1000 * z.length := by
    refine Nat.mul_le_mul_right _ (Nat.le_trans (StrLaws.occ_length_le x y 0 x.length n.toNat) ?_)
    omega
  have hl : tooLong (x.length + (occurrences x y 0 x.length n.toNat).length * z.length) = false := by
    unfold tooLong sizeLine
    exact decide_eq_false (by omega)
  have hlen := replN_len x y z n
  refine call_gives F.slot_str_replace (typeIs_str _ _ _) F.entry_str_replace (F.args_str_replace_4 _ _ _ _)
    (gives_replN x y z n t u v k h0 h1 ⟨by simp [hu, hv], by simp [huv], hyz, hl⟩) ?_
  have hq' := hq
  unfold replN at hq' hlen
  cases hc : ((occurrences x y 0 x.length n.toNat).isEmpty || (y.length == 0 && z.length == 0))
  · rw [hc] at hq' hlen
    simp only [Bool.false_eq_true, if_false] at hq' hlen ⊢
    exact ⟨by rw [sizeLine_eq]; omega, hq' _ _⟩
  · rw [hc] at hq'
    simp only [if_true] at hq' ⊢
    exact hq' t s.toks
end
section
variable {X : Cx} {e n : Expr} {te tn : TE} {sp y z : Str} {j0 j k : Nat} {c0 c1 c2 apos1 pos1 apos pos : Pos}
theorem pe_jrep (he : PE X e te) (hn : PE X n tn) (hyz : (y == z) = false := by decide)
    (hs1 : starEach [e] X.env = [(false, eval e X.env)] := by rfl)
    (hst : starEach [.Constant (.str y) j c1, .Constant (.str z) k c2, n] X.env = [(false, eval (.Constant (.str y) j c1) X.env), (false, eval (.Constant (.str z) k c2) X.env), (false, eval n X.env)] := by rfl)
    (hb1 : attributeBase (.Constant (.str sp) j0 c0) "join" X.env (eval (.Constant (.str sp) j0 c0) X.env) = eval (.Constant (.str sp) j0 c0) X.env := by rfl) (hl1 : (apos1.endLine == pos1.line) = true := by rfl)
    (hbase : attributeBase (.Call (.Attribute (.Constant (.str sp) j0 c0) "join" apos1) [e] [] pos1) "replace" X.env (eval (.Call (.Attribute (.Constant (.str sp) j0 c0) "join" apos1) [e] [] pos1) X.env) = eval (.Call (.Attribute (.Constant (.str sp) j0 c0) "join" apos1) [e] [] pos1) X.env := by rfl) (hline : (apos.endLine == pos.line) = true := by rfl) :
    PE X (.Call (.Attribute (.Call (.Attribute (.Constant (.str sp) j0 c0) "join" apos1) [e] [] pos1) "replace" apos) [.Constant (.str y) j c1, .Constant (.str z) k c2, n] [] pos)
      (fun σ H Q => te σ H fun x H1 => ∃ p, ∃ ys : List Str, x = .ref p ∧ (SqL X.K H1 p (ys.map V.str) ∨ SqT X.K H1 p (ys.map V.str)) ∧ (ys.map (·.length)).sum + ys.length * sp.length ≤ 16777216 ∧
        tn σ H1 fun m H2 => ∃ i : Int, m = .int i ∧ 0 ≤ i ∧ i ≤ 1000 ∧ (Txt.join sp ys).length + 1000 * z.length ≤ 16777216 ∧ Q (.str (replN (Txt.join sp ys) y z i)) H2) := by
  refine ⟨fun pins s σ H Q I h => ?_⟩
  refine wpAny_Call_method_lateS hbase (by rw [hst]; rfl) hline ?_
  rw [hst]
  have inner : wpAny (model X.prog X.w) X.A (eval (.Call (.Attribute (.Constant (.str sp) j0 c0) "join" apos1) [e] [] pos1) X.env) (fun v s1 => 1 ≤ s1.toks ∧ ∃ x H1, Inv X pins σ H1 s1 ∧ RelV x v ∧ ∃ ys : List Str, x = .str (Txt.join sp ys) ∧
      tn σ H1 fun m H2 => ∃ i : Int, m = .int i ∧ 0 ≤ i ∧ i ≤ 1000 ∧ (Txt.join sp ys).length + 1000 * z.length ≤ 16777216 ∧ Q (.str (replN (Txt.join sp ys) y z i)) H2) X.xe s := by
    refine PySem.Call_method1 hb1 hs1 hl1 (Calls.Constant_str ?_)
    refine ⟨"str", _, F.plainAttrs_str, F.slot_str_join, F.type_str_join, typeIs_str _ _ _, (fun _ e => nomatch e), ?_⟩
    refine wpAny_mono (PySem.wpAny_toks (Calls.callWith_builtin rfl (Calls.evalArgs_plain (Calls.spliced_cons (thn (he.run pins _ σ H _ (I.tok _) h) fun u s2 ⟨yv, H2, I2, r2, q2⟩ => Calls.spliced_nil ?_))))) (fun v s2 q => ⟨Nat.le_trans (by show 1 ≤ s.toks + 1; omega) q.1, q.2⟩) fun _ _ z => z.2
    obtain ⟨p, ys, rfl, hp, hz, q⟩ := q2
    exact mt_join pins s2 σ H2 (.str sp) [.ref p] _ [u] (fun x H1 => ∃ ys : List Str, x = .str (Txt.join sp ys) ∧ tn σ H1 fun m H2 => ∃ i : Int, m = .int i ∧ 0 ≤ i ∧ i ≤ 1000 ∧ (Txt.join sp ys).length + 1000 * z.length ≤ 16777216 ∧ Q (.str (replN (Txt.join sp ys) y z i)) H2) I2 ⟨_, rfl⟩ (.cons r2 .nil) ⟨sp, p, ys, rfl, rfl, hp, hz, ys, rfl, q⟩
  refine thn inner fun v s1 q => ?_
  obtain ⟨hk, x, H1, I1, r1, ys, rfl, q⟩ := q
  obtain ⟨tx, rfl⟩ := r1
  refine ⟨"str", _, F.plainAttrs_str, F.slot_str_replace, F.type_str_replace, typeIs_str _ _ _, (fun _ e => nomatch e), Calls.callWith_builtin rfl (Calls.evalArgs_plain (Calls.spliced_cons ?_))⟩
  refine Calls.Constant_str (k := j) (pos := c1) ?_
  refine Calls.spliced_cons ?_
  refine Calls.Constant_str (k := k) (pos := c2) ?_
  refine Calls.spliced_cons ?_
  refine thn (hn.run pins _ σ H1 _ ((I1.tok _).tok _) q) fun u s2 ⟨m, H2, I2, r2, i, e2, h0, h1, hb, q2⟩ => Calls.spliced_nil ?_
  subst e2
  obtain ⟨ti, rfl⟩ := r2
  exact replaceN h0 h1 (by show s1.toks ≠ 0; omega) (by show s1.toks + 1 ≠ 0; omega) (by show s1.toks ≠ s1.toks + 1; omega) hyz hb fun t' k => ⟨.str _, H2, I2.tok k, ⟨t', rfl⟩, q2⟩
end
/-- C.join(e).replace(y, z, n) -/
def jrepD (sp y z : Str) (a b : D) : Option D := match a, b with
  | .lst ds, .int n => (match strsD ds with
    | some ys => if okP ((ys.map (·.length)).sum + ys.length * sp.length ≤ 16777216 ∧ 0 ≤ n ∧ n ≤ 1000 ∧ (Str.join sp ys).length + 1000 * z.length ≤ 16777216) = true then some (.str (replN (Str.join sp ys) y z n)) else none
    | none => none)
  | _, _ => none
def sJRep (sp y z : Str) (sa sb : SE) : SE := fun ρ => match sa ρ, sb ρ with
  | some (a, _), some (b, _) => (match jrepD sp y z a b with
    | some d => some (d, none)
    | none => none)
  | _, _ => none
section
variable {X : Cx} {e n : Expr} {sa sb : SE} {sp y z : Str} {j0 j k : Nat} {c0 c1 c2 apos1 pos1 apos pos : Pos}
theorem dJRep (he : PP X e sa) (hn : PP X n sb) (hyz : (y == z) = false := by decide)
    (hs1 : starEach [e] X.env = [(false, eval e X.env)] := by rfl)
    (hst : starEach [.Constant (.str y) j c1, .Constant (.str z) k c2, n] X.env = [(false, eval (.Constant (.str y) j c1) X.env), (false, eval (.Constant (.str z) k c2) X.env), (false, eval n X.env)] := by rfl)
    (hb1 : attributeBase (.Constant (.str sp) j0 c0) "join" X.env (eval (.Constant (.str sp) j0 c0) X.env) = eval (.Constant (.str sp) j0 c0) X.env := by rfl) (hl1 : (apos1.endLine == pos1.line) = true := by rfl)
    (hbase : attributeBase (.Call (.Attribute (.Constant (.str sp) j0 c0) "join" apos1) [e] [] pos1) "replace" X.env (eval (.Call (.Attribute (.Constant (.str sp) j0 c0) "join" apos1) [e] [] pos1) X.env) = eval (.Call (.Attribute (.Constant (.str sp) j0 c0) "join" apos1) [e] [] pos1) X.env := by rfl) (hline : (apos.endLine == pos.line) = true := by rfl) :
    PP X (.Call (.Attribute (.Call (.Attribute (.Constant (.str sp) j0 c0) "join" apos1) [e] [] pos1) "replace" apos) [.Constant (.str y) j c1, .Constant (.str z) k c2, n] [] pos) (sJRep sp y z sa sb) := by
  refine ⟨fun C ρ σ H Fs d kk Q E h q => WE.of (pe_jrep (we X e) (we X n) hyz hs1 hst hb1 hl1 hbase hline) ?_⟩
  unfold sJRep at h
  split at h
  · rename_i a k1 b k2 h1 h2
    split at h
    · rename_i d' hd
      cases h
      cases a <;> cases b <;> simp only [jrepD, reduceCtorEq] at hd
      rename_i ds i
      split at hd
      · rename_i ys hy
        split at hd
        · rename_i hz
          cases hd
          obtain ⟨hz1, h0, h3, h4⟩ := okP_iff.mp hz
          refine he.run C ρ σ H Fs _ k1 _ E h1 fun v H1 F s1 r1 => ?_
          obtain ⟨p, vs, G', rfl, hl, _, r3⟩ := r1.lst
          refine ⟨p, ys, rfl, .inl (SqL.of (by rw [← strsD_rep hy r3.rep]; exact hl)), hz1, ?_⟩
          refine hn.run C ρ σ H1 Fs _ k2 _ (E.same s1) h2 fun w H2 G s2 r2 => ?_
          refine ⟨i, r2.rep.1, h0, h3, by rw [TL.join_eq]; exact h4, q _ H2 [] (s1.trans s2) ⟨⟨by rw [TL.join_eq], rfl⟩, List.nodup_nil, fun a ha => by cases ha⟩⟩
        · cases hd
      · cases hd
    · cases h
  · cases h
end
theorem ef_jrep {ps : List Pt} {sa sb : SE} {ma mb : R D} {sp y z : Str} (ha : Ee sa ps ma) (hb : Ee sb ps mb) : Ef (sJRep sp y z sa sb) ps (op2 (jrepD sp y z) ma mb) := fun ρ e =>
  post_bnd (ha ρ e) nox fun x ⟨k, ex⟩ => post_bnd (hb ρ e) nox fun w ⟨k', ey⟩ => post_of fun d hd => by
    show sJRep sp y z sa sb ρ = some (d, none)
    unfold sJRep
    rw [ex, ey]
    simp only [hd]
theorem vJRep {sp y z : Str} {l : List Str} {n : Int} (h : (l.map (·.length)).sum + l.length * sp.length ≤ 16000000) (h0 : 0 ≤ n) (h1 : n ≤ 1000) (hz : z.length ≤ 100) : jrepD sp y z (.lst (l.map D.str)) (.int n) = some (.str (replN (Str.join sp l) y z n)) := by
  have hj := join_le sp l
  unfold jrepD
  simp only [strsD_str]
  rw [if_pos (okT ⟨by omega, h0, h1, by omega⟩)]
end DL
end DLsec46
set_option maxRecDepth 100000
noncomputable section DLsec47
/-! DL47: a < b < c as a test. -/
namespace DL
open PySem PySem.Spec PyProof.Rows L2
section
variable {X : Cx} {a b c : Expr} {sa sb sc : SE} {pos : Pos}
theorem tChn {op op' : CmpOp} {f g : D → D → Option D} (o : OpD X (compareOp op) f) (o' : OpD X (compareOp op') g) (ha : PP X a sa) (hb : PP X b sb) (hc : PP X c sc) (hm : lastMarks [op, op'] [b, c] = false := by with_unfolding_all rfl) :
    PPT X (.Compare a [op, op'] [b, c] pos) (sT (sChn f g sa sb sc)) := by
  obtain ⟨r, hr, hf⟩ := o
  obtain ⟨r', hr', hg⟩ := o'
  refine ⟨fun C ρ σ H Fs b' Q E h q => ?_⟩
  obtain ⟨k, h⟩ := sT_some h
  refine WT.of (pt_chain hr hr' (we X a) (we X b) (we X c) hm) ?_
  unfold sChn at h
  cases h1 : sa ρ with
  | none => rw [h1] at h; cases h
  | some p1 =>
    obtain ⟨x, kx⟩ := p1
    cases h2 : sb ρ with
    | none => rw [h1, h2] at h; cases h
    | some p2 =>
      obtain ⟨y, ky⟩ := p2
      rw [h1, h2] at h
      simp only at h
      refine two ha hb E h1 h2 fun v u H' F G s r1 r2 _ => ?_
      cases h3 : f x y with
      | none => simp only [h3] at h; cases h
      | some z0 =>
        obtain ⟨im, go⟩ := hf x y z0 h3
        cases z0 with
        | bl t =>
          cases t with
          | false =>
            simp only [h3] at h
            cases h
            refine go H' v u F G _ r1.rep r2.rep fun w H2 s2 rw => ⟨false, rw.1, ?_⟩
            rw [if_neg (by decide)]
            exact ⟨false, rfl, q H2 (s.trans s2)⟩
          | true =>
            simp only [h3] at h
            cases h4 : sc ρ with
            | none => simp only [h4] at h; cases h
            | some p3 =>
              obtain ⟨z, kz⟩ := p3
              simp only [h4] at h
              cases h5 : g y z with
              | none => simp only [h5] at h; cases h
              | some w0 =>
                simp only [h5] at h
                cases h
                obtain ⟨im2, go2⟩ := hg y z _ h5
                refine go H' v u F G _ r1.rep r2.rep fun w H2 s2 rw0 => ⟨true, rw0.1, ?_⟩
                rw [if_pos rfl]
                refine hc.run C ρ σ H2 Fs z kz _ (E.same (s.trans s2)) h4 fun u2 H3 G2 s3 r3 => ?_
                exact go2 H3 u u2 G G2 _ ((r2.rep.same s2).same s3) r3.rep fun w2 H4 s4 rw4 => ⟨b', rw4.1, q H4 (((s.trans s2).trans s3).trans s4)⟩
        | _ => simp only [h3] at h; cases h
end
end DL
end DLsec47
set_option maxRecDepth 100000
noncomputable section DLsec48
/-! DL48: displays of dicts: keys numbers and texts, values scalars. -/
namespace DL
open PySem PySem.Spec PyProof.Rows L2
def scOr (d : D) : V := d.sc.getD .non
def sPairs : List (SE × SE) → DEnv → Option (List (Key × D))
  | [], _ => some []
  | (sk, sv) :: r, ρ => match sk ρ, sv ρ, sPairs r ρ with
    | some (k, _), some (d, _), some l => (match k.key, d.sc with
      | some kk, some _ => some ((kk, d) :: l)
      | _, _ => none)
    | _, _, _ => none
inductive PDs (X : Cx) : List (Option Expr) → List Expr → List (SE × SE) → Prop
  | nil : PDs X [] [] []
  | cons {k v : Expr} {ks : List (Option Expr)} {vs : List Expr} {sk sv : SE} {r : List (SE × SE)} (hk : PP X k sk) (hv : PP X v sv) (t : PDs X ks vs r) : PDs X (some k :: ks) (v :: vs) ((sk, sv) :: r)
theorem key_v {K : PySem.W.Frag} {H : Hp} {o : Bool} {d : D} {k : Key} {v : V} {F : List Addr} (h : d.key = some k) (r : Rep K H o d v F) : v = kV k := by
  cases d <;> first
    | (cases h; exact r.1)
    | (cases h; done)
theorem pds_run {X : Cx} {pos : Pos} {ks : List (Option Expr)} {vs : List Expr} {r : List (SE × SE)} (h : PDs X ks vs r) : ∃ trs, PPs X pos ks vs trs ∧ ∀ (C : Ct) (ρ : DEnv) (σ : L2.St) (H : Hp) (Fs : Nat → List Addr) (l : List (Key × D)) (Q : List (V × V) → Hp → Prop),
    EnvOk X.K C H ρ σ Fs → sPairs r ρ = some l → (∀ H', Same H H' → Q (l.map fun p => (kV p.1, scOr p.2)) H') → tPairs trs σ H Q := by
  induction h with
  | nil => exact ⟨[], pps_nil, fun C ρ σ H Fs l Q E hl q => by cases hl; exact q H (Same.refl H)⟩
  | @cons k v ks vs sk sv r hk hv t ih =>
    obtain ⟨trs, hp, run⟩ := ih
    refine ⟨(WE X k, WE X v) :: trs, pps_cons (we X k) (we X v) hp, fun C ρ σ H Fs l Q E hl q => ?_⟩
    unfold sPairs at hl
    split at hl
    · rename_i dk k1 d k2 l' h1 h2 h3
      split at hl
      · rename_i kk w hkk hw
        cases hl
        refine hk.run C ρ σ H Fs _ k1 _ E h1 fun x H1 F1 s1 r1 => hv.run C ρ σ H1 Fs _ k2 _ (E.same s1) h2 fun y H2 F2 s2 r2 => run C ρ σ H2 Fs l' _ (E.same (s1.trans s2)) h3 fun H3 s3 => ?_
        have e1 : x = kV kk := key_v hkk r1.rep
        have e2 : y = scOr d := by
          unfold scOr
          rw [hw]
          exact sc_rep hw r2.rep
        rw [e1, e2]
        exact q H3 ((s1.trans s2).trans s3)
      · cases hl
    · cases hl
def dispK : List (Key × D) → List Key → List D → List Key × List D
  | [], ks, ds => (ks, ds)
  | (k, d) :: r, ks, ds => dispK r (putL ks ds k d).1 (putL ks ds k d).2
theorem reps_scs {K : PySem.W.Frag} {H : Hp} {o : Bool} : ∀ ds : List D, (∀ d ∈ ds, ∃ w, d.sc = some w) → Reps K H o ds (ds.map scOr) []
  | [], _ => ⟨rfl, rfl⟩
  | d :: ds, h => by
    have ih := reps_scs (K := K) (H := H) (o := o) ds fun d hd => h d (List.mem_cons_of_mem _ hd)
    obtain ⟨w, hw⟩ := h d List.mem_cons_self
    cases d <;> first
      | exact ⟨_, _, [], [], rfl, rfl, ⟨rfl, rfl⟩, ih⟩
      | (cases hw; done)
theorem disp_ok : ∀ (l : List (Key × D)) (ks : List Key) (ds : List D), ks.length = ds.length → ks.Nodup → (∀ d ∈ ds, ∃ w, d.sc = some w) → (∀ p ∈ l, ∃ w, p.2.sc = some w) →
    mergeK (ks.zip (ds.map scOr)) (l.map fun p => (p.1, scOr p.2)) = (dispK l ks ds).1.zip ((dispK l ks ds).2.map scOr) ∧ (dispK l ks ds).1.length = (dispK l ks ds).2.length ∧ (dispK l ks ds).1.Nodup ∧ ∀ d ∈ (dispK l ks ds).2, ∃ w, d.sc = some w
  | [], ks, ds, hl, nd, h, _ => ⟨rfl, hl, nd, h⟩
  | (k, d) :: l, ks, ds, hl, nd, h, hp => by
    have hd : ∃ w, d.sc = some w := hp (k, d) List.mem_cons_self
    have e : putK (ks.zip (ds.map scOr)) k (scOr d) = (putL ks ds k d).1.zip ((putL ks ds k d).2.map scOr) ∧ (putL ks ds k d).1.length = (putL ks ds k d).2.length ∧ (putL ks ds k d).1.Nodup ∧ ∀ z ∈ (putL ks ds k d).2, ∃ w, z.sc = some w := by
      unfold putL
      cases hk : posK ks k with
      | some n =>
        refine ⟨?_, by simpa using hl, nd, fun z hz => ?_⟩
        · show putK _ _ _ = ks.zip ((ds.set n d).map scOr)
          rw [putK_at nd (by rw [List.length_map]; exact hl) hk, List.map_set]
        · rcases List.mem_or_eq_of_mem_set hz with hz | rfl
          · exact h z hz
          · exact hd
      | none =>
        refine ⟨?_, by simpa using hl, ?_, fun z hz => ?_⟩
        · show putK _ _ _ = (ks ++ [k]).zip ((ds ++ [d]).map scOr)
          rw [putK_end (by rw [List.length_map]; exact hl) hk, List.map_append]
          rfl
        · have := posK_none hk
          refine List.nodup_append.mpr ⟨nd, by simp, fun a ha b hb => ?_⟩
          rw [List.mem_singleton.mp hb]
          exact fun e => this (e ▸ ha)
        · rcases List.mem_append.mp hz with hz | hz
          · exact h z hz
          · rw [List.mem_singleton.mp hz]; exact hd
    obtain ⟨e1, e2, e3, e4⟩ := e
    have ih := disp_ok l _ _ e2 e3 e4 fun p hp' => hp p (List.mem_cons_of_mem _ hp')
    refine ⟨?_, ih.2⟩
    show mergeK (putK (ks.zip (ds.map scOr)) k (scOr d)) (l.map fun p => (p.1, scOr p.2)) = _
    rw [e1]
    exact ih.1
def sDisp (r : List (SE × SE)) : SE := fun ρ => match sPairs r ρ with
  | some l => if okP (l.length ≤ 15) = true then some (.dK (dispK l [] []).1 (dispK l [] []).2, none) else none
  | none => none
theorem pairs_sc : ∀ {r : List (SE × SE)} {ρ : DEnv} {l : List (Key × D)}, sPairs r ρ = some l → ∀ p ∈ l, ∃ w, p.2.sc = some w
  | [], _, l, h, p, hp => by cases h; cases hp
  | (sk, sv) :: r, ρ, l, h, p, hp => by
    unfold sPairs at h
    split at h
    · rename_i dk k1 d k2 l' h1 h2 h3
      split at h
      · rename_i kk w hkk hw
        cases h
        rcases List.mem_cons.mp hp with rfl | hp
        · exact ⟨w, hw⟩
        · exact pairs_sc h3 p hp
      · cases h
    · cases h
theorem dDisp {X : Cx} {pos : Pos} {ks : List (Option Expr)} {vs : List Expr} {r : List (SE × SE)} (h : PDs X ks vs r) (hall : ks.all (·.isSome) = true := by rfl) (hl : ks.length = vs.length := by rfl) (h0 : ks ≠ [] := by simp) (h15 : ks.length ≤ 15 := by decide) :
    PP X (.Dict ks vs pos) (sDisp r) := by
  obtain ⟨trs, hp, run⟩ := pds_run (pos := pos) h
  refine ⟨fun C ρ σ H Fs d k Q E hs q => WE.of (pe_disp hp hall hl h0 h15) fun p hpn => ?_⟩
  unfold sDisp at hs
  split at hs
  · rename_i l hl2
    split at hs
    · rename_i hz
      cases hs
      refine run C ρ σ _ Fs l _ (E.same (same_new hpn)) hl2 fun H2 s2 => ⟨s2 p _ upd_same, l.map fun p => (p.1, scOr p.2), by rw [List.map_map]; rfl, by rw [List.length_map]; exact okP_iff.mp hz, ?_⟩
      obtain ⟨e1, e2, e3, e4⟩ := disp_ok l [] [] rfl List.nodup_nil (fun d hd => by cases hd) (pairs_sc hl2)
      have e1 : mergeK [] (l.map fun p => (p.1, scOr p.2)) = _ := e1
      rw [e1]
      refine q _ _ [p] (fun b o hb => ?_) ⟨⟨p, _, [], rfl, reps_scs _ e4, ⟨e2, e3⟩, .inl ⟨upd_same, rfl⟩⟩, by simp, fun a ha => by rw [List.mem_singleton.mp ha]; exact hpn⟩
      have hne : b ≠ p := fun e => by rw [e, hpn] at hb; cases hb
      have := s2 b o (by rw [upd_ne hne]; exact hb)
      rw [upd_ne hne]
      exact this
    · cases hs
  · cases hs
/-! as plain functions -/
def prR (mk mv : R D) (mr : R (List (Key × D))) : R (List (Key × D)) := mk.bnd fun k => mv.bnd fun d => mr.bnd fun l => match k.key, d.sc with
  | some kk, some _ => .ok ((kk, d) :: l)
  | _, _ => .bad
def dispR (m : R (List (Key × D))) : R D := m.bnd fun l => if okP (l.length ≤ 15) = true then .ok (.dK (dispK l [] []).1 (dispK l [] []).2) else .bad
def Ed (r : List (SE × SE)) (ps : List Pt) (m : R (List (Key × D))) : Prop := ∀ ρ, EPs ps ρ → m.post (fun l => sPairs r ρ = some l) NoX
section
variable {ps : List Pt} {sk sv : SE} {r : List (SE × SE)} {mk mv : R D} {mr : R (List (Key × D))}
theorem eds_nil : Ed [] ps (.ok []) := fun ρ e => rfl
theorem eds_cons (hk : Ee sk ps mk) (hv : Ee sv ps mv) (hr : Ed r ps mr) : Ed ((sk, sv) :: r) ps (prR mk mv mr) := fun ρ e =>
  post_bnd (hk ρ e) nox fun x ⟨k, ex⟩ => post_bnd (hv ρ e) nox fun y ⟨k', ey⟩ => post_bnd (hr ρ e) nox fun l el => by
    cases h1 : x.key with
    | none => trivial
    | some kk =>
      cases h2 : y.sc with
      | none => trivial
      | some w =>
        show sPairs ((sk, sv) :: r) ρ = some ((kk, y) :: l)
        unfold sPairs
        rw [ex, ey, show sPairs r ρ = some l from el]
        simp only [h1, h2]
theorem ef_disp (h : Ed r ps mr) : Ef (sDisp r) ps (dispR mr) := fun ρ e =>
  post_bnd (h ρ e) nox fun l el => by
    cases hc : okP (l.length ≤ 15) with
    | false => rw [if_neg (by decide)]; trivial
    | true =>
      rw [if_pos rfl]
      show sDisp r ρ = some (_, none)
      unfold sDisp
      rw [show sPairs r ρ = some l from el]
      simp only [hc, if_true]
end
/-! what they come to -/
theorem prR_ok {k d : D} {kk : Key} {w : V} {l : List (Key × D)} (hk : k.key = some kk) (hd : d.sc = some w) : prR (R.ok k) (R.ok d) (R.ok l) = R.ok ((kk, d) :: l) := by
  unfold prR
  rw [bnd_ok, bnd_ok, bnd_ok]
  simp only [hk, hd]
theorem prS_int {x : Str} {i : Int} {l : List (Key × D)} : prR (R.ok (.str x)) (R.ok (.int i)) (R.ok l) = R.ok ((.inr x, .int i) :: l) := prR_ok (w := .int i) rfl rfl
theorem dispK_S {β : Type} {f : β → D} : ∀ (l : List (Str × β)) (m : List (Str × β)), dispK (l.map fun p => (Sum.inr p.1, f p.2)) (m.map fun p => Sum.inr p.1) (m.map fun p => f p.2) = ((l.foldl (fun m p => aput m p.1 p.2) m).map (fun p => Sum.inr p.1), (l.foldl (fun m p => aput m p.1 p.2) m).map fun p => f p.2)
  | [], m => rfl
  | p :: l, m => by
    rw [List.map_cons, dispK, putL_map (f := f) injS m p.1 p.2, List.foldl_cons]
    exact dispK_S l _
theorem vDispS {β : Type} {f : β → D} (l : List (Str × β)) (h : l.length ≤ 15) : dispR (R.ok (l.map fun p => (Sum.inr p.1, f p.2))) = R.ok (dS f (l.foldl (fun m p => aput m p.1 p.2) [])) := by
  unfold dispR
  rw [bnd_ok, if_pos (okT (by rw [List.length_map]; exact h))]
  have := dispK_S (f := f) l []
  rw [List.map_nil, List.map_nil] at this
  rw [this]
  rfl
end DL
end DLsec48
set_option maxRecDepth 100000
noncomputable section DLsec49
/-! DL49: classes without an initialiser: their facts in two (k_exc shows the second). -/
namespace DL
open PySem PySem.Spec PyProof.Rows L2
section
variable {K : PySem.W.Frag} {h : Heap} {mg : Str → Option Value}
def plB2 (K : PySem.W.Frag) (x : Str) (C : Addr) : Bool := decide (clsOf K x = some C) && (PySem.W.keepIn K (.ref C) && (decide (PySem.W.subIn K (.ref C) (.type "BaseException") = some true) && decide (PySem.W.typeIn K (.ref C) = some (.type "type"))))
theorem pl_ok2 (X : K.In h) (G : h.Ns mainGlobals mg) {x : Str} {C : Addr} (hb : plB2 K x C = true) (he : PySem.W.excIn K C [.type "ValueError", .type "Exception", .type "BaseException", .type "object"] "ValueError.__new__" = true) : PlainX K mg x := by
  unfold plB2 at hb
  simp only [Bool.and_eq_true, decide_eq_true_eq] at hb
  exact ⟨C, mg_cls X G hb.1, hb.1, he, hb.2.1, hb.2.2.1, hb.2.2.2⟩
end
end DL
end DLsec49
set_option maxRecDepth 100000
set_option maxHeartbeats 4000000
noncomputable section
namespace My
open PySem PySem.Spec PyProof.Rows L2 DL
/-! the text, by places -/
def topS (i : Nat) : Stmt := PySem.Challenge.pw_pricecover_k03_no_term.main.body.getD i (.Pass ⟨0, 0, 0, 0⟩)
abbrev s_is_name : Stmt := topS 17
abbrev s_is_number : Stmt := topS 18
abbrev s_wanted_by : Stmt := topS 19
abbrev s_law_next : Stmt := topS 24
abbrev s_law_drawn : Stmt := topS 26
abbrev s_law_good_word : Stmt := topS 29
abbrev s_word_of : Stmt := topS 20
abbrev s_is_one : Stmt := topS 21
abbrev s_law_words : Stmt := topS 25
abbrev s_law_odd : Stmt := topS 27
abbrev s_law_good : Stmt := topS 30
abbrev s_read_term : Stmt := topS 22
abbrev s_law_spoiled : Stmt := topS 28
abbrev s_law_right : Stmt := topS 31
abbrev s_law : Stmt := topS 32
abbrev k_KEPT : D := (.cot [(.str (Str.ofString "add")), (.str (Str.ofString "sub")), (.str (Str.ofString "mul")), (.str (Str.ofString "neg")), (.str (Str.ofString "any")), (.str (Str.ofString "var")), (.str (Str.ofString "put")), (.str (Str.ofString "load")), (.str (Str.ofString "out"))])
abbrev k_LETTERS : D := (.str (Str.ofString "abcdefghijklmnopqrstuvwxyz"))
abbrev k_PAIRS : D := (.cot [(.str (Str.ofString "add")), (.str (Str.ofString "sub")), (.str (Str.ofString "mul"))])
abbrev exNames : List Str := ["CoverError", "NoTerm", "NoBox", "BadCover", "NoCover", "BadRow", "NoValue", "Twice", "NoName", "BadShape", "BadDeed", "Unsound"]
/-- what the top has laid -/
structure Tx (K : PySem.W.Frag) (mg : Str → Option Value) : Prop where
  n_ValueError : mg "ValueError" = none
  n_all : mg "all" = none
  n_int : mg "int" = none
  n_isinstance : mg "isinstance" = none
  n_len : mg "len" = none
  n_list : mg "list" = none
  n_range : mg "range" = none
  n_str : mg "str" = none
  n_sum : mg "sum" = none
  n_tuple : mg "tuple" = none
  k_KEPT : GlobD K mg "KEPT" k_KEPT
  k_LETTERS : GlobD K mg "LETTERS" k_LETTERS
  k_PAIRS : GlobD K mg "PAIRS" k_PAIRS
  ex : ExTab K mg supC exNames
  cv : CvX K mg exNames
  pl_NoTerm : PlainX K mg "NoTerm"
  f_is_name : Std K mg "is_name" s_is_name ["word"]
  f_is_number : Std K mg "is_number" s_is_number ["word"]
  f_wanted_by : Std K mg "wanted_by" s_wanted_by ["word"]
  f_law_next : Std K mg "_law_next" s_law_next ["deck"]
  f_law_drawn : Std K mg "_law_drawn" s_law_drawn ["cell"]
  f_law_good_word : Std K mg "_law_good_word" s_law_good_word ["word"]
  f_word_of : Std K mg "word_of" s_word_of ["text"]
  f_is_one : Std K mg "is_one" s_is_one ["words"]
  f_law_words : Std K mg "_law_words" s_law_words ["deck", "most"]
  f_law_odd : Std K mg "_law_odd" s_law_odd ["cell"]
  f_law_good : Std K mg "_law_good" s_law_good ["text"]
  f_read_term : Std K mg "read_term" s_read_term ["text"]
  f_law_spoiled : Std K mg "_law_spoiled" s_law_spoiled ["words", "cell"]
  f_law_right : Std K mg "_law_right" s_law_right ["text"]
section
variable {P : Program} {w : World} {K : PySem.W.Frag} {mg : Str → Option Value} {base : Heap}
/-- is_name(word): 0 word, 1 sign -/
def b_is_name : SS :=
    (sSeq (sIfS (sB (tOrS (sT (sOp (fIn false) (sV 0) (sC k_KEPT))) (tOrS (sT (sOp fLt (sCall gLen (sACons (sV 0) sANil)) (sC (.int 1)))) (sT (sOp fGt (sCall gLen (sACons (sV 0) sANil)) (sC (.int 8))))))) (sRet (sX (sC (.bl false)))) sNil)
    (sRet (sX (sCall gAll (sACons (sLc (sItS (sV 0)) [1] (setS 1) tYesS (sOp (fInS false) (sV 1) (sC k_LETTERS))) sANil)))))
theorem sc_is_name : FnScope ["word", "sign"] ["word"] (defScope s_is_name) := ⟨rfl, rfl, rfl, by decide +kernel, rfl, by decide +kernel, by decide +kernel⟩
theorem r_is_name (T : Tx K mg) : Cal P w K mg base CX0 "is_name" 1 [false] (noEx (fnOf 2 [false] (b_is_name))) := by
  refine cal_of T.f_is_name sc_is_name rfl fun f cdv A outer s H E hr => ?_
  have sc := sc_is_name
  exact (dCons (dIfS (wOr (tCmp oIn (dv 0) T.k_KEPT.dv) (wOr (tCmp oLt (dCallB oLen (by rfl) T.n_len PySem.boot_len (dACons (dv 0) dANil)) dInt) (wOr1 (tCmp oGt (dCallB oLen (by rfl) T.n_len PySem.boot_len (dACons (dv 0) dANil)) dInt)))).pt.x (dLast (dRet dBl.x)) dNil)
    (dLast (dRet (dCallB (oAll rfl) (by rfl) T.n_all (by decide +kernel) (dACons (dLc (own := [("sign", 1)]) rfl sc.nd (iItS (dv 0)) (blkOk_by (N := ["word", "sign"]) (sc := defScope s_is_name) (by decide +kernel)) (by decide) (fun _ _ _ _ _ => (dgName 1 sc.nd)) (fun _ _ _ _ _ => tNil) (fun _ _ _ _ _ => (dCmp oInS (dv 1) T.k_LETTERS.dv))) dANil)).x)))
/-- is_number(word): 0 word, 1 figures, 2 sign -/
def b_is_number : SS :=
    (sSeq (sAsg (sX (sV 0)) (setS 1))
    (sSeq (sIfS (sB (sT (sOp fEq (sSl (sV 0) (fun _ => some none) (sOSome (sC (.int 1)))) (sC (.str (Str.ofString "-")))))) (sAsg (sX (sSl (sV 0) (sOSome (sC (.int 1))) (fun _ => some none))) (setS 1)) sNil)
    (sSeq (sIfS (sB (tOrS (sT (sOp fLt (sCall gLen (sACons (sV 1) sANil)) (sC (.int 1)))) (sT (sOp fGt (sCall gLen (sACons (sV 1) sANil)) (sC (.int 60)))))) (sRet (sX (sC (.bl false)))) sNil)
    (sSeq (sIfS (sB (tNotS (sT (sCall gAll (sACons (sLc (sItS (sV 1)) [2] (setS 2) tYesS (sOp (fInS false) (sV 2) (sC (.str (Str.ofString "0123456789"))))) sANil))))) (sRet (sX (sC (.bl false)))) sNil)
    (sRet (sX (sOr (sOp fNe (sIx (sV 1) (sC (.int 0))) (sC (.str (Str.ofString "0")))) (sOp fEq (sV 0) (sC (.str (Str.ofString "0")))))))))))
theorem sc_is_number : FnScope ["word", "figures", "sign"] ["word"] (defScope s_is_number) := ⟨rfl, rfl, rfl, by decide +kernel, rfl, by decide +kernel, by decide +kernel⟩
theorem r_is_number (T : Tx K mg) : Cal P w K mg base CX0 "is_number" 1 [false] (noEx (fnOf 3 [false] (b_is_number))) := by
  refine cal_of T.f_is_number sc_is_number rfl fun f cdv A outer s H E hr => ?_
  have sc := sc_is_number
  exact (dCons (dSet 1 (dv 0).x sc.nd)
    (dCons (dIfS (tCmp oEq (dSl (dv 0) dONone (dOSome dInt)) dStr).x (dLast (dSet 1 (dSl (dv 0) (dOSome dInt) dONone).x sc.nd)) dNil)
    (dCons (dIfS (wOr (tCmp oLt (dCallB oLen (by rfl) T.n_len PySem.boot_len (dACons (dv 1) dANil)) dInt) (wOr1 (tCmp oGt (dCallB oLen (by rfl) T.n_len PySem.boot_len (dACons (dv 1) dANil)) dInt))).pt.x (dLast (dRet dBl.x)) dNil)
    (dCons (dIfS (tNot (tVal (dCallB (oAll rfl) (by rfl) T.n_all (by decide +kernel) (dACons (dLc (own := [("sign", 2)]) rfl sc.nd (iItS (dv 1)) (blkOk_by (N := ["word", "figures", "sign"]) (sc := defScope s_is_number) (by decide +kernel)) (by decide) (fun _ _ _ _ _ => (dgName 2 sc.nd)) (fun _ _ _ _ _ => tNil) (fun _ _ _ _ _ => (dCmp oInS (dv 2) dStr))) dANil)))).x (dLast (dRet dBl.x)) dNil)
    (dLast (dRet (dOr (dCmp oNe (dIx (dv 1) dInt) dStr) (dOne (dCmp oEq (dv 0) dStr))).x))))))
/-- wanted_by(word): 0 word -/
def b_wanted_by : SS :=
    (sSeq (sIfS (sB (sT (sOp (fIn false) (sV 0) (sC k_PAIRS)))) (sRet (sX (sC (.int 2)))) sNil)
    (sSeq (sIfS (sB (sT (sOp fEq (sV 0) (sC (.str (Str.ofString "neg")))))) (sRet (sX (sC (.int 1)))) sNil)
    (sRet (sX (sC (.int 0))))))
theorem sc_wanted_by : FnScope ["word"] ["word"] (defScope s_wanted_by) := ⟨rfl, rfl, rfl, by decide +kernel, rfl, by decide +kernel, by decide +kernel⟩
theorem r_wanted_by (T : Tx K mg) : Cal P w K mg base CX0 "wanted_by" 1 [false] (noEx (fnOf 1 [false] (b_wanted_by))) := by
  refine cal_of T.f_wanted_by sc_wanted_by rfl fun f cdv A outer s H E hr => ?_
  have sc := sc_wanted_by
  exact (dCons (dIfS (tCmp oIn (dv 0) T.k_PAIRS.dv).x (dLast (dRet dInt.x)) dNil)
    (dCons (dIfS (tCmp oEq (dv 0) dStr).x (dLast (dRet dInt.x)) dNil)
    (dLast (dRet dInt.x))))
/-- _law_next(deck): 0 deck, 1 at -/
def b_law_next : SS :=
    (sSeq (sAsg (sX (sIx (sV 0) (sC (.int 1)))) (setS 1))
    (sSeq (sSetIx 0 (sC (.int 1)) (sX (sOp fAdd (sV 1) (sC (.int 1)))))
    (sSeq (sIfS (sB (sT (sOp fLt (sV 1) (sCall gLen (sACons (sIx (sV 0) (sC (.int 0))) sANil))))) (sRet (sX (sIx (sIx (sV 0) (sC (.int 0))) (sV 1)))) sNil)
    (sRet (sX (sOp fMod (sOp fAdd (sOp fAdd (sOp fMul (sOp fMul (sOp fMul (sV 1) (sV 1)) (sV 1)) (sC (.int 7))) (sOp fMul (sOp fMul (sC (.int 31)) (sV 1)) (sV 1))) (sCall gSum (sACons (sSl (sIx (sV 0) (sC (.int 0))) (fun _ => some none) (sOSome (sC (.int 40)))) sANil))) (sC (.int 1000000007))))))))
theorem sc_law_next : FnScope ["deck", "at"] ["deck"] (defScope s_law_next) := ⟨rfl, rfl, rfl, by decide +kernel, rfl, by decide +kernel, by decide +kernel⟩
theorem r_law_next (T : Tx K mg) : Cal P w K mg base CX0 "_law_next" 1 [true] (noEx (fnOf 2 [true] (b_law_next))) := by
  refine cal_of T.f_law_next sc_law_next rfl fun f cdv A outer s H E hr => ?_
  have sc := sc_law_next
  exact (dCons (dSet 1 (dIx (dv 0) dInt).x sc.nd)
    (dCons (dSetIx 0 dInt (dOp oAdd (dv 1) dInt).x)
    (dCons (dIfS (tCmp oLt (dv 1) (dCallB oLen (by rfl) T.n_len PySem.boot_len (dACons (dIx (dv 0) dInt) dANil))).x (dLast (dRet (dIx (dIx (dv 0) dInt) (dv 1)).x)) dNil)
    (dLast (dRet (dOp oMod (dOp oAdd (dOp oAdd (dOp oMul (dOp oMul (dOp oMul (dv 1) (dv 1)) (dv 1)) dInt) (dOp oMul (dOp oMul dInt (dv 1)) (dv 1))) (dCallB (oSum rfl) (by rfl) T.n_sum (by decide +kernel) (dACons (dSl (dIx (dv 0) dInt) dONone (dOSome dInt)) dANil))) dInt).x)))))
/-- _law_drawn(cell): 0 cell, 1 letters, 2 signs, 3 rest, 4 spun, 5 word, 6 at, 7 k -/
def b_law_drawn : SS :=
    (sSeq (sAsg (sX (sC (.str (Str.ofString "abcdefghijklmnopqrstuvwxyz")))) (setS 1))
    (sSeq (sAsg (sX (sC (.str (Str.ofString " !#$&'()*+,-./0189:;<=>?@AEZ[]^_`aelxz{|}~\n\"\\")))) (setS 2))
    (sSeq (sAsg (sX (sOp fDiv (sV 0) (sC (.int 4)))) (setS 3))
    (sSeq (sAsg (sX (sOp fMod (sOp fMul (sOp fAdd (sOp fMod (sV 3) (sC (.int 1000003))) (sC (.int 7))) (sC (.int 48271))) (sC (.int 2147483629)))) (setS 4))
    (sSeq (sAsg (sX (sOp fMod (sOp fMul (sV 4) (sV 4)) (sC (.int 2147483587)))) (setS 4))
    (sSeq (sAsg (sX (sOp fCat (sIx (sLst (sACons (sC (.str (Str.ofString ""))) (sACons (sC (.str (Str.ofString "-"))) (sACons (sC (.str (Str.ofString "0"))) (sACons (sC (.str (Str.ofString "-0"))) (sACons (sC (.str (Str.ofString "00"))) (sACons (sC (.str (Str.ofString "-00"))) sANil))))))) (sOp fMod (sV 4) (sC (.int 6)))) (sCall gStr (sACons (sOp fMod (sV 3) (sC (.int 100))) sANil)))) (setS 5))
    (sSeq (sIfS (sB (sT (sOp fEq (sOp fMod (sV 0) (sC (.int 4))) (sC (.int 1))))) (sAsg (sX (sOp fCat (sOp fCat (sIx (sLst (sACons (sC (.str (Str.ofString ""))) (sACons (sC (.str (Str.ofString "-"))) (sACons (sC (.str (Str.ofString "0"))) (sACons (sC (.str (Str.ofString "-0"))) sANil))))) (sOp fMod (sV 4) (sC (.int 4)))) (sOp fRepS (sC (.str (Str.ofString "1234567890"))) (sOp fMod (sV 3) (sC (.int 7))))) (sSl (sCall gStr (sACons (sV 4) sANil)) (fun _ => some none) (sOSome (sOp fMod (sOp fDiv (sV 3) (sC (.int 7))) (sC (.int 10))))))) (setS 5)) sNil)
    (sSeq (sIfS (sB (sT (sOp fEq (sOp fMod (sV 0) (sC (.int 4))) (sC (.int 2))))) (sAsg (sX (sJoin (sC (.str (Str.ofString ""))) (sLc (sRng (sACons (sOp fMod (sV 3) (sC (.int 12))) sANil)) [7] (setS 7) tYesS (sIx (sV 1) (sOp fMod (sOp fDiv (sV 4) (sOp fAdd (sV 7) (sC (.int 1)))) (sC (.int 26))))))) (setS 5)) sNil)
    (sSeq (sIfS (sB (sT (sOp fEq (sOp fMod (sV 0) (sC (.int 4))) (sC (.int 3))))) (sSeq (sAsg (sX (sIx (sLst (sACons (sC (.str (Str.ofString "add"))) (sACons (sC (.str (Str.ofString "sub"))) (sACons (sC (.str (Str.ofString "mul"))) (sACons (sC (.str (Str.ofString "neg"))) (sACons (sC (.str (Str.ofString "any"))) (sACons (sC (.str (Str.ofString "var"))) (sACons (sC (.str (Str.ofString "put"))) (sACons (sC (.str (Str.ofString "load"))) (sACons (sC (.str (Str.ofString "out"))) sANil)))))))))) (sOp fMod (sV 3) (sC (.int 9))))) (setS 5))
    (sAsg (sX (sIx (sLst (sACons (sOp fCat (sV 5) (sIx (sV 1) (sOp fMod (sV 4) (sC (.int 26))))) (sACons (sUpper (sV 5)) (sACons (sOp fCat (sIx (sV 1) (sOp fMod (sV 4) (sC (.int 26)))) (sV 5)) sANil)))) (sOp fMod (sOp fDiv (sV 3) (sC (.int 9))) (sC (.int 3))))) (setS 5))) sNil)
    (sSeq (sIfS (sB (sT (sOp fEq (sOp fMod (sOp fDiv (sV 4) (sC (.int 26))) (sC (.int 3))) (sC (.int 1))))) (sSeq (sAsg (sX (sOp fMod (sOp fDiv (sV 4) (sC (.int 78))) (sOp fAdd (sCall gLen (sACons (sV 5) sANil)) (sC (.int 1))))) (setS 6))
    (sAsg (sX (sOp fCat (sOp fCat (sSl (sV 5) (fun _ => some none) (sOSome (sV 6))) (sIx (sV 2) (sOp fMod (sOp fDiv (sV 4) (sC (.int 1000))) (sCall gLen (sACons (sV 2) sANil))))) (sSl (sV 5) (sOSome (sV 6)) (fun _ => some none)))) (setS 5))) sNil)
    (sRetV 5)))))))))))
theorem sc_law_drawn : FnScope ["cell", "letters", "signs", "rest", "spun", "word", "at", "k"] ["cell"] (defScope s_law_drawn) := ⟨rfl, rfl, rfl, by decide +kernel, rfl, by decide +kernel, by decide +kernel⟩
theorem r_law_drawn (T : Tx K mg) : Cal P w K mg base CX0 "_law_drawn" 1 [false] (noEx (fnOf 8 [false] (b_law_drawn))) := by
  refine cal_of T.f_law_drawn sc_law_drawn rfl fun f cdv A outer s H E hr => ?_
  have sc := sc_law_drawn
  exact (dCons (dSet 1 dStr.x sc.nd)
    (dCons (dSet 2 dStr.x sc.nd)
    (dCons (dSet 3 (dOp oDiv (dv 0) dInt).x sc.nd)
    (dCons (dSet 4 (dOp oMod (dOp oMul (dOp oAdd (dOp oMod (dv 3) dInt) dInt) dInt) dInt).x sc.nd)
    (dCons (dSet 4 (dOp oMod (dOp oMul (dv 4) (dv 4)) dInt).x sc.nd)
    (dCons (dSet 5 (dOp oCat (dIx (dLst (dACons dStr (dACons dStr (dACons dStr (dACons dStr (dACons dStr (dACons dStr dANil))))))) (dOp oMod (dv 4) dInt)) (dCallT oStr (by rfl) T.n_str (by decide +kernel) (dACons (dOp oMod (dv 3) dInt) dANil))).x sc.nd)
    (dCons (dIfS (tCmp oEq (dOp oMod (dv 0) dInt) dInt).x (dLast (dSet 5 (dOp oCat (dOp oCat (dIx (dLst (dACons dStr (dACons dStr (dACons dStr (dACons dStr dANil))))) (dOp oMod (dv 4) dInt)) (dOp oRepS dStr (dOp oMod (dv 3) dInt))) (dSl (dCallT oStr (by rfl) T.n_str (by decide +kernel) (dACons (dv 4) dANil)) dONone (dOSome (dOp oMod (dOp oDiv (dv 3) dInt) dInt)))).x sc.nd)) dNil)
    (dCons (dIfS (tCmp oEq (dOp oMod (dv 0) dInt) dInt).x (dLast (dSet 5 (dJoin dStr (dLc (own := [("k", 7)]) rfl sc.nd (iRng1 (by rfl) T.n_range (dACons (dOp oMod (dv 3) dInt) dANil)) (blkOk_by (N := ["cell", "letters", "signs", "rest", "spun", "word", "at", "k"]) (sc := defScope s_law_drawn) (by decide +kernel)) (by decide) (fun _ _ _ _ _ => (dgName 7 sc.nd)) (fun _ _ _ _ _ => tNil) (fun _ _ _ _ _ => (dIx (dv 1) (dOp oMod (dOp oDiv (dv 4) (dOp oAdd (dv 7) dInt)) dInt))))).x sc.nd)) dNil)
    (dCons (dIfS (tCmp oEq (dOp oMod (dv 0) dInt) dInt).x (dCons (dSet 5 (dIx (dLst (dACons dStr (dACons dStr (dACons dStr (dACons dStr (dACons dStr (dACons dStr (dACons dStr (dACons dStr (dACons dStr dANil)))))))))) (dOp oMod (dv 3) dInt)).x sc.nd)
    (dLast (dSet 5 (dIx (dLst (dACons (dOp oCat (dv 5) (dIx (dv 1) (dOp oMod (dv 4) dInt))) (dACons (dUpper (dv 5)) (dACons (dOp oCat (dIx (dv 1) (dOp oMod (dv 4) dInt)) (dv 5)) dANil)))) (dOp oMod (dOp oDiv (dv 3) dInt) dInt)).x sc.nd))) dNil)
    (dCons (dIfS (tCmp oEq (dOp oMod (dOp oDiv (dv 4) dInt) dInt) dInt).x (dCons (dSet 6 (dOp oMod (dOp oDiv (dv 4) dInt) (dOp oAdd (dCallB oLen (by rfl) T.n_len PySem.boot_len (dACons (dv 5) dANil)) dInt)).x sc.nd)
    (dLast (dSet 5 (dOp oCat (dOp oCat (dSl (dv 5) dONone (dOSome (dv 6))) (dIx (dv 2) (dOp oMod (dOp oDiv (dv 4) dInt) (dCallB oLen (by rfl) T.n_len PySem.boot_len (dACons (dv 2) dANil))))) (dSl (dv 5) (dOSome (dv 6)) dONone)).x sc.nd))) dNil)
    (dLast (dRetV 5))))))))))))
/-- _law_good_word(word): 0 word, 1 letters, 2 left, 3 figures, 4 sign -/
def b_law_good_word : SS :=
    (sSeq (sIfS (sB (sT (sOp (fIn false) (sV 0) (sLst (sACons (sC (.str (Str.ofString "add"))) (sACons (sC (.str (Str.ofString "sub"))) (sACons (sC (.str (Str.ofString "mul"))) (sACons (sC (.str (Str.ofString "neg"))) sANil)))))))) (sRet (sX (sC (.bl true)))) sNil)
    (sSeq (sIfS (sB (sT (sOp (fIn false) (sV 0) (sLst (sACons (sC (.str (Str.ofString "any"))) (sACons (sC (.str (Str.ofString "var"))) (sACons (sC (.str (Str.ofString "put"))) (sACons (sC (.str (Str.ofString "load"))) (sACons (sC (.str (Str.ofString "out"))) sANil))))))))) (sRet (sX (sC (.bl false)))) sNil)
    (sSeq (sAsg (sX (sLc (sItS (sV 0)) [4] (setS 4) (sT (sOp (fInS false) (sV 4) (sC (.str (Str.ofString "abcdefghijklmnopqrstuvwxyz"))))) (sV 4))) (setS 1))
    (sSeq (sIfS (sB (tAndS (sT (sChn fLt fLt (sC (.int 0)) (sCall gLen (sACons (sV 0) sANil)) (sC (.int 9)))) (sT (sOp fEq (sCall gLen (sACons (sV 1) sANil)) (sCall gLen (sACons (sV 0) sANil)))))) (sRet (sX (sC (.bl true)))) sNil)
    (sSeq (sAsg (sX (sV 0)) (setS 2))
    (sSeq (sIfS (sB (sT (sOp fEq (sSl (sV 0) (fun _ => some none) (sOSome (sC (.int 1)))) (sC (.str (Str.ofString "-")))))) (sAsg (sX (sSl (sV 0) (sOSome (sC (.int 1))) (fun _ => some none))) (setS 2)) sNil)
    (sSeq (sAsg (sX (sLc (sItS (sV 2)) [4] (setS 4) (sT (sOp (fInS false) (sV 4) (sC (.str (Str.ofString "0123456789"))))) (sV 4))) (setS 3))
    (sSeq (sIfS (sB (tOrS (sT (sOp fEq (sV 2) (sC (.str (Str.ofString ""))))) (tOrS (sT (sOp fGt (sCall gLen (sACons (sV 2) sANil)) (sC (.int 60)))) (tOrS (sT (sOp fLt (sCall gLen (sACons (sV 3) sANil)) (sCall gLen (sACons (sV 2) sANil)))) (sT (sOp fEq (sV 0) (sC (.str (Str.ofString "-0"))))))))) (sRet (sX (sC (.bl false)))) sNil)
    (sRet (sX (sOr (sOp fEq (sV 2) (sC (.str (Str.ofString "0")))) (sOp fNe (sIx (sV 2) (sC (.int 0))) (sC (.str (Str.ofString "0")))))))))))))))
theorem sc_law_good_word : FnScope ["word", "letters", "left", "figures", "sign"] ["word"] (defScope s_law_good_word) := ⟨rfl, rfl, rfl, by decide +kernel, rfl, by decide +kernel, by decide +kernel⟩
theorem r_law_good_word (T : Tx K mg) : Cal P w K mg base CX0 "_law_good_word" 1 [false] (noEx (fnOf 5 [false] (b_law_good_word))) := by
  refine cal_of T.f_law_good_word sc_law_good_word rfl fun f cdv A outer s H E hr => ?_
  have sc := sc_law_good_word
  exact (dCons (dIfS (tCmp oIn (dv 0) (dLst (dACons dStr (dACons dStr (dACons dStr (dACons dStr dANil)))))).x (dLast (dRet dBl.x)) dNil)
    (dCons (dIfS (tCmp oIn (dv 0) (dLst (dACons dStr (dACons dStr (dACons dStr (dACons dStr (dACons dStr dANil))))))).x (dLast (dRet dBl.x)) dNil)
    (dCons (dSetLc (own := [("sign", 4)]) 1 rfl sc.nd (sw_true rfl rfl rfl (by decide +kernel)) (iItS (dv 0)) (blkOk_by (N := ["word", "letters", "left", "figures", "sign"]) (sc := defScope s_law_good_word) (by decide +kernel)) (by decide) (fun _ _ _ _ _ => (dgName 4 sc.nd)) (fun _ _ _ _ _ => (tOne (tCmp oInS (dv 4) dStr))) (fun _ _ _ _ _ => (dv 4)))
    (dCons (dIfS (wAnd (tChn oLt oLt dInt (dCallB oLen (by rfl) T.n_len PySem.boot_len (dACons (dv 0) dANil)) dInt) (wAnd1 (tCmp oEq (dCallB oLen (by rfl) T.n_len PySem.boot_len (dACons (dv 1) dANil)) (dCallB oLen (by rfl) T.n_len PySem.boot_len (dACons (dv 0) dANil))))).pt.x (dLast (dRet dBl.x)) dNil)
    (dCons (dSet 2 (dv 0).x sc.nd)
    (dCons (dIfS (tCmp oEq (dSl (dv 0) dONone (dOSome dInt)) dStr).x (dLast (dSet 2 (dSl (dv 0) (dOSome dInt) dONone).x sc.nd)) dNil)
    (dCons (dSetLc (own := [("sign", 4)]) 3 rfl sc.nd (sw_true rfl rfl rfl (by decide +kernel)) (iItS (dv 2)) (blkOk_by (N := ["word", "letters", "left", "figures", "sign"]) (sc := defScope s_law_good_word) (by decide +kernel)) (by decide) (fun _ _ _ _ _ => (dgName 4 sc.nd)) (fun _ _ _ _ _ => (tOne (tCmp oInS (dv 4) dStr))) (fun _ _ _ _ _ => (dv 4)))
    (dCons (dIfS (wOr (tCmp oEq (dv 2) dStr) (wOr (tCmp oGt (dCallB oLen (by rfl) T.n_len PySem.boot_len (dACons (dv 2) dANil)) dInt) (wOr (tCmp oLt (dCallB oLen (by rfl) T.n_len PySem.boot_len (dACons (dv 3) dANil)) (dCallB oLen (by rfl) T.n_len PySem.boot_len (dACons (dv 2) dANil))) (wOr1 (tCmp oEq (dv 0) dStr))))).pt.x (dLast (dRet dBl.x)) dNil)
    (dLast (dRet (dOr (dCmp oEq (dv 2) dStr) (dOne (dCmp oNe (dIx (dv 2) dInt) dStr))).x))))))))))
/-- word_of(text): 0 text -/
def b_word_of (g_wanted_by g_is_name g_is_number : FS) : SS :=
    (sSeq (sIfS (sB (sT (sCallF g_is_number 1 (sACons (sV 0) sANil)))) (sRet (sX (sCall gInt (sACons (sV 0) sANil)))) sNil)
    (sSeq (sIfS (sB (tOrS (sT (sCallF g_is_name 1 (sACons (sV 0) sANil))) (sT (sOp fGt (sCallF g_wanted_by 1 (sACons (sV 0) sANil)) (sC (.int 0)))))) (sRetV 0) sNil)
    (sRet (sX (sC .non)))))
theorem sc_word_of : FnScope ["text"] ["text"] (defScope s_word_of) := ⟨rfl, rfl, rfl, by decide +kernel, rfl, by decide +kernel, by decide +kernel⟩
theorem r_word_of (T : Tx K mg) {g_wanted_by : FS} (c_wanted_by : Cal P w K mg base CX0 "wanted_by" 1 [false] g_wanted_by) {g_is_name : FS} (c_is_name : Cal P w K mg base CX0 "is_name" 1 [false] g_is_name) {g_is_number : FS} (c_is_number : Cal P w K mg base CX0 "is_number" 1 [false] g_is_number) : Cal P w K mg base CX0 "word_of" 2 [false] (noEx (fnOf 1 [false] (b_word_of g_wanted_by g_is_name g_is_number))) := by
  refine cal_of T.f_word_of sc_word_of rfl fun f cdv A outer s H E hr => ?_
  have sc := sc_word_of
  exact (dCons (dIfS (tVal (dCal c_is_number (hr.mono (by decide)) (dACons (dv 0) dANil))).x (dLast (dRet (dCallT oInt (by rfl) T.n_int (by decide +kernel) (dACons (dv 0) dANil)).x)) dNil)
    (dCons (dIfS (wOr (tVal (dCal c_is_name (hr.mono (by decide)) (dACons (dv 0) dANil))) (wOr1 (tCmp oGt (dCal c_wanted_by (hr.mono (by decide)) (dACons (dv 0) dANil)) dInt))).pt.x (dLast (dRetV 0)) dNil)
    (dLast (dRet dNon.x))))
/-- is_one(words): 0 words, 1 due, 2 word -/
def b_is_one (g_wanted_by : FS) : SS :=
    (sSeq (sAsg (sX (sC (.int 1))) (setS 1))
    (sSeq (sFor (sIt (sV 0)) (setS 2) (sSeq (sIfS (sB (sT (sOp fEq (sV 1) (sC (.int 0))))) (sRet (sX (sC (.bl false)))) sNil)
    (sAsg (sX (sOp fAdd (sOp fSub (sV 1) (sC (.int 1))) (sCallF g_wanted_by 1 (sACons (sV 2) sANil)))) (setS 1))))
    (sRet (sX (sOp fEq (sV 1) (sC (.int 0)))))))
theorem sc_is_one : FnScope ["words", "due", "word"] ["words"] (defScope s_is_one) := ⟨rfl, rfl, rfl, by decide +kernel, rfl, by decide +kernel, by decide +kernel⟩
theorem r_is_one (T : Tx K mg) {g_wanted_by : FS} (c_wanted_by : Cal P w K mg base CX0 "wanted_by" 1 [false] g_wanted_by) : Cal P w K mg base CX0 "is_one" 2 [false] (noEx (fnOf 3 [false] (b_is_one g_wanted_by))) := by
  refine cal_of T.f_is_one sc_is_one rfl fun f cdv A outer s H E hr => ?_
  have sc := sc_is_one
  exact (dCons (dSet 1 dInt.x sc.nd)
    (dCons (dFor PassesOwn.never rfl (iIt (dv 0)) (dgName 2 sc.nd) (dCons (dIfS (tCmp oEq (dv 1) dInt).x (dLast (dRet dBl.x)) dNil)
    (dLast (dSet 1 (dOp oAdd (dOp oSub (dv 1) dInt) (dCal c_wanted_by (hr.mono (by decide)) (dACons (dv 2) dANil))).x sc.nd))))
    (dLast (dRet (dCmp oEq (dv 1) dInt).x))))
/-- _law_words(deck, most): 0 deck, 1 most, 2 names, 3 words, 4 due, 5 cell, 6 room, 7 rest -/
def b_law_words (g_law_next : FS) : SS :=
    (sSeq (sAsg (sX (sLst (sACons (sC (.str (Str.ofString "a"))) (sACons (sC (.str (Str.ofString "b"))) (sACons (sC (.str (Str.ofString "ab"))) (sACons (sC (.str (Str.ofString "kind"))) (sACons (sC (.str (Str.ofString "addd"))) (sACons (sC (.str (Str.ofString "ad"))) (sACons (sC (.str (Str.ofString "rule"))) (sACons (sC (.str (Str.ofString "abcdefgh"))) sANil)))))))))) (setS 2))
    (sSeq (sAsg (sX (sLst sANil)) (setS 3))
    (sSeq (sAsg (sX (sC (.int 1))) (setS 4))
    (sSeq (sWhile (sB (sT (sOp fGt (sV 4) (sC (.int 0))))) (sSeq (sAsg (sCallIO g_law_next [(some 0)] (sXV 0 (sA sANil))) (setS 5))
    (sSeq (sAsg (sX (sOp fSub (sOp fSub (sV 1) (sCall gLen (sACons (sV 3) sANil))) (sV 4))) (setS 6))
    (sSeq (sAsg (sX (sOp fDiv (sV 5) (sC (.int 8)))) (setS 7))
    (sSeq (sAsg (sX (sOp fSub (sV 4) (sC (.int 1)))) (setS 4))
    (sIfS (sB (tAndS (sT (sOp fLt (sOp fMod (sV 5) (sC (.int 8))) (sC (.int 4)))) (sT (sOp fGt (sV 6) (sC (.int 1)))))) (sSeq (sDrop (sAppend 3 (sX (sIx (sLst (sACons (sC (.str (Str.ofString "add"))) (sACons (sC (.str (Str.ofString "sub"))) (sACons (sC (.str (Str.ofString "mul"))) (sACons (sC (.str (Str.ofString "mul"))) sANil))))) (sOp fMod (sV 5) (sC (.int 8)))))))
    (sAsg (sX (sOp fAdd (sV 4) (sC (.int 2)))) (setS 4))) (sIfS (sB (tAndS (sT (sOp fEq (sOp fMod (sV 5) (sC (.int 8))) (sC (.int 4)))) (sT (sOp fGt (sV 6) (sC (.int 0)))))) (sSeq (sDrop (sAppend 3 (sX (sC (.str (Str.ofString "neg"))))))
    (sAsg (sX (sOp fAdd (sV 4) (sC (.int 1)))) (setS 4))) (sIfS (sB (sT (sOp fLt (sOp fMod (sV 5) (sC (.int 8))) (sC (.int 6))))) (sDrop (sAppend 3 (sX (sCall gStr (sACons (sIx (sLst (sACons (sOp fMod (sV 7) (sC (.int 12))) (sACons (sOp fMod (sV 7) (sOp fPow (sC (.int 10)) (sC (.int 60)))) (sACons (sNeg (sOp fMod (sV 7) (sOp fPow (sC (.int 10)) (sC (.int 60))))) sANil)))) (sOp fMod (sV 7) (sC (.int 3)))) sANil))))) (sDrop (sAppend 3 (sX (sIx (sV 2) (sOp fMod (sV 7) (sC (.int 8)))))))))))))))
    (sRetV 3)))))
theorem sc_law_words : FnScope ["deck", "most", "names", "words", "due", "cell", "room", "rest"] ["deck", "most"] (defScope s_law_words) := ⟨rfl, rfl, rfl, by decide +kernel, rfl, by decide +kernel, by decide +kernel⟩
theorem r_law_words (T : Tx K mg) {g_law_next : FS} (c_law_next : Cal P w K mg base CX0 "_law_next" 1 [true] g_law_next) : Cal P w K mg base CX0 "_law_words" 2 [true, false] (noEx (fnOf 8 [true, false] (b_law_words g_law_next))) := by
  refine cal_of T.f_law_words sc_law_words rfl fun f cdv A outer s H E hr => ?_
  have sc := sc_law_words
  exact (dCons (dSet 2 (dLst (dACons dStr (dACons dStr (dACons dStr (dACons dStr (dACons dStr (dACons dStr (dACons dStr (dACons dStr dANil))))))))).x sc.nd)
    (dCons (dSet 3 (dLst dANil).x sc.nd)
    (dCons (dSet 4 dInt.x sc.nd)
    (dCons (dWhile PassesOwn.never (tCmp oGt (dv 4) dInt).x (dCons (dSet 5 (xCallIO (is := [(some 0)]) c_law_next (hr.mono (by decide)) (xiV 0 (xiT dANil.x 0) (.inr rfl))) sc.nd)
    (dCons (dSet 6 (dOp oSub (dOp oSub (dv 1) (dCallB oLen (by rfl) T.n_len PySem.boot_len (dACons (dv 3) dANil))) (dv 4)).x sc.nd)
    (dCons (dSet 7 (dOp oDiv (dv 5) dInt).x sc.nd)
    (dCons (dSet 4 (dOp oSub (dv 4) dInt).x sc.nd)
    (dLast (dIfS (wAnd (tCmp oLt (dOp oMod (dv 5) dInt) dInt) (wAnd1 (tCmp oGt (dv 6) dInt))).pt.x (dCons (dExpr (xAppend 3 (dIx (dLst (dACons dStr (dACons dStr (dACons dStr (dACons dStr dANil))))) (dOp oMod (dv 5) dInt)).x))
    (dLast (dSet 4 (dOp oAdd (dv 4) dInt).x sc.nd))) (dLast (dIfS (wAnd (tCmp oEq (dOp oMod (dv 5) dInt) dInt) (wAnd1 (tCmp oGt (dv 6) dInt))).pt.x (dCons (dExpr (xAppend 3 dStr.x))
    (dLast (dSet 4 (dOp oAdd (dv 4) dInt).x sc.nd))) (dLast (dIfS (tCmp oLt (dOp oMod (dv 5) dInt) dInt).x (dLast (dExpr (xAppend 3 (dCallT oStr (by rfl) T.n_str (by decide +kernel) (dACons (dIx (dLst (dACons (dOp oMod (dv 7) dInt) (dACons (dOp oMod (dv 7) (dOp oPow dInt dInt)) (dACons (dNeg (dOp oMod (dv 7) (dOp oPow dInt dInt))) dANil)))) (dOp oMod (dv 7) dInt)) dANil)).x))) (dLast (dExpr (xAppend 3 (dIx (dv 2) (dOp oMod (dv 7) dInt)).x))))))))))))))
    (dLast (dRetV 3))))))
/-- _law_odd(cell): 0 cell, 1 some -/
def b_law_odd (g_law_drawn : FS) : SS :=
    (sSeq (sIfS (sB (sT (sOp fEq (sOp fMod (sV 0) (sC (.int 2))) (sC (.int 1))))) (sRet (sX (sCallF g_law_drawn 1 (sACons (sOp fDiv (sV 0) (sC (.int 2))) sANil)))) sNil)
    (sSeq (sAsg (sX (sLst (sACons (sC (.str (Str.ofString "-01"))) (sACons (sC (.str (Str.ofString "-00"))) (sACons (sC (.str (Str.ofString "00"))) (sACons (sC (.str (Str.ofString "-007"))) sANil)))))) (setS 1))
    (sSeq (sAsg (sX (sCatL (sV 1) (sLst (sACons (sC (.str (Str.ofString "any"))) (sACons (sC (.str (Str.ofString "var"))) (sACons (sC (.str (Str.ofString "put"))) (sACons (sC (.str (Str.ofString "load"))) (sACons (sC (.str (Str.ofString "out"))) (sACons (sC (.str (Str.ofString ""))) (sACons (sC (.str (Str.ofString "01"))) (sACons (sC (.str (Str.ofString "+1"))) (sACons (sC (.str (Str.ofString "-0"))) (sACons (sC (.str (Str.ofString "1_0"))) (sACons (sC (.str (Str.ofString "1.0"))) (sACons (sC (.str (Str.ofString "--1"))) (sACons (sC (.str (Str.ofString "-"))) sANil)))))))))))))))) (setS 1))
    (sSeq (sAsg (sX (sCatL (sV 1) (sLst (sACons (sC (.str (Str.ofString "A"))) (sACons (sC (.str (Str.ofString "aB"))) (sACons (sC (.str (Str.ofString "a1"))) (sACons (sC (.str (Str.ofString "a-b"))) sANil))))))) (setS 1))
    (sSeq (sAsg (sX (sCatL (sV 1) (sLst (sACons (sOp fRepS (sC (.str (Str.ofString "1"))) (sC (.int 61))) (sACons (sOp fCat (sC (.str (Str.ofString "-"))) (sOp fRepS (sC (.str (Str.ofString "9"))) (sC (.int 61)))) (sACons (sC (.str (Str.ofString "abcdefghi"))) (sACons (sC (.str (Str.ofString "add1"))) (sACons (sC (.str (Str.ofString "Add"))) (sACons (sC (.str (Str.ofString "ADD"))) (sACons (sC (.str (Str.ofString "adds "))) (sACons (sC (.str (Str.ofString "neg\n"))) (sACons (sC (.str (Str.ofString "div"))) (sACons (sC (.str (Str.ofString "plus"))) sANil))))))))))))) (setS 1))
    (sSeq (sAsg (sX (sCatL (sV 1) (sLst (sACons (sC (.str (Str.ofString "("))) (sACons (sC (.str (Str.ofString "x y"))) sANil))))) (setS 1))
    (sRet (sX (sIx (sV 1) (sOp fMod (sOp fDiv (sV 0) (sC (.int 2))) (sCall gLen (sACons (sV 1) sANil))))))))))))
theorem sc_law_odd : FnScope ["cell", "some"] ["cell"] (defScope s_law_odd) := ⟨rfl, rfl, rfl, by decide +kernel, rfl, by decide +kernel, by decide +kernel⟩
theorem r_law_odd (T : Tx K mg) {g_law_drawn : FS} (c_law_drawn : Cal P w K mg base CX0 "_law_drawn" 1 [false] g_law_drawn) : Cal P w K mg base CX0 "_law_odd" 2 [false] (noEx (fnOf 2 [false] (b_law_odd g_law_drawn))) := by
  refine cal_of T.f_law_odd sc_law_odd rfl fun f cdv A outer s H E hr => ?_
  have sc := sc_law_odd
  exact (dCons (dIfS (tCmp oEq (dOp oMod (dv 0) dInt) dInt).x (dLast (dRet (dCal c_law_drawn (hr.mono (by decide)) (dACons (dOp oDiv (dv 0) dInt) dANil)).x)) dNil)
    (dCons (dSet 1 (dLst (dACons dStr (dACons dStr (dACons dStr (dACons dStr dANil))))).x sc.nd)
    (dCons (dSet 1 (dCatL (dv 1) (dLst (dACons dStr (dACons dStr (dACons dStr (dACons dStr (dACons dStr (dACons dStr (dACons dStr (dACons dStr (dACons dStr (dACons dStr (dACons dStr (dACons dStr (dACons dStr dANil))))))))))))))).x sc.nd)
    (dCons (dSet 1 (dCatL (dv 1) (dLst (dACons dStr (dACons dStr (dACons dStr (dACons dStr dANil)))))).x sc.nd)
    (dCons (dSet 1 (dCatL (dv 1) (dLst (dACons (dOp oRepS dStr dInt) (dACons (dOp oCat dStr (dOp oRepS dStr dInt)) (dACons dStr (dACons dStr (dACons dStr (dACons dStr (dACons dStr (dACons dStr (dACons dStr (dACons dStr dANil)))))))))))).x sc.nd)
    (dCons (dSet 1 (dCatL (dv 1) (dLst (dACons dStr (dACons dStr dANil)))).x sc.nd)
    (dLast (dRet (dIx (dv 1) (dOp oMod (dOp oDiv (dv 0) dInt) (dCallB oLen (by rfl) T.n_len PySem.boot_len (dACons (dv 1) dANil)))).x))))))))
/-- _law_good(text): 0 text, 1 due, 2 word -/
def b_law_good (g_law_good_word : FS) : SS :=
    (sSeq (sAsg (sX (sC (.int 1))) (setS 1))
    (sSeq (sFor (sIt (sSplit (sV 0) (sC (.str (Str.ofString " "))))) (setS 2) (sSeq (sIfS (sB (tOrS (sT (sOp fLt (sV 1) (sC (.int 1)))) (tNotS (sT (sCallF g_law_good_word 1 (sACons (sV 2) sANil)))))) (sRet (sX (sC (.bl false)))) sNil)
    (sIfS (sB (sT (sOp (fIn false) (sV 2) (sLst (sACons (sC (.str (Str.ofString "add"))) (sACons (sC (.str (Str.ofString "sub"))) (sACons (sC (.str (Str.ofString "mul"))) sANil))))))) (sAsg (sX (sOp fAdd (sV 1) (sC (.int 1)))) (setS 1)) (sIfS (sB (sT (sOp fNe (sV 2) (sC (.str (Str.ofString "neg")))))) (sAsg (sX (sOp fSub (sV 1) (sC (.int 1)))) (setS 1)) sNil))))
    (sRet (sX (sOp fEq (sV 1) (sC (.int 0)))))))
theorem sc_law_good : FnScope ["text", "due", "word"] ["text"] (defScope s_law_good) := ⟨rfl, rfl, rfl, by decide +kernel, rfl, by decide +kernel, by decide +kernel⟩
theorem r_law_good (T : Tx K mg) {g_law_good_word : FS} (c_law_good_word : Cal P w K mg base CX0 "_law_good_word" 1 [false] g_law_good_word) : Cal P w K mg base CX0 "_law_good" 2 [false] (noEx (fnOf 3 [false] (b_law_good g_law_good_word))) := by
  refine cal_of T.f_law_good sc_law_good rfl fun f cdv A outer s H E hr => ?_
  have sc := sc_law_good
  exact (dCons (dSet 1 dInt.x sc.nd)
    (dCons (dFor PassesOwn.never rfl (iIt (dSplit (dv 0) dStr)) (dgName 2 sc.nd) (dCons (dIfS (wOr (tCmp oLt (dv 1) dInt) (wOr1 (tNot (tVal (dCal c_law_good_word (hr.mono (by decide)) (dACons (dv 2) dANil)))))).pt.x (dLast (dRet dBl.x)) dNil)
    (dLast (dIfS (tCmp oIn (dv 2) (dLst (dACons dStr (dACons dStr (dACons dStr dANil))))).x (dLast (dSet 1 (dOp oAdd (dv 1) dInt).x sc.nd)) (dLast (dIfS (tCmp oNe (dv 2) dStr).x (dLast (dSet 1 (dOp oSub (dv 1) dInt).x sc.nd)) dNil))))))
    (dLast (dRet (dCmp oEq (dv 1) dInt).x))))
/-- read_term(text): 0 text, 1 words, 2 word -/
def b_read_term (g_is_one g_word_of : FS) : SS :=
    (sSeq (sAsg (sX (sLc (sIt (sSplit (sV 0) (sC (.str (Str.ofString " "))))) [2] (setS 2) tYesS (sCallF g_word_of 1 (sACons (sV 2) sANil)))) (setS 1))
    (sSeq (sIfS (sB (tOrS (sT (sOp (fIn false) (sC .non) (sV 1))) (tNotS (sT (sCallF g_is_one 1 (sACons (sV 1) sANil)))))) (sRaise "NoTerm") sNil)
    (sRet (sX (sTuple (sV 1))))))
theorem sc_read_term : FnScope ["text", "words", "word"] ["text"] (defScope s_read_term) := ⟨rfl, rfl, rfl, by decide +kernel, rfl, by decide +kernel, by decide +kernel⟩
theorem r_read_term (T : Tx K mg) {g_is_one : FS} (c_is_one : Cal P w K mg base CX0 "is_one" 2 [false] g_is_one) {g_word_of : FS} (c_word_of : Cal P w K mg base CX0 "word_of" 2 [false] g_word_of) : Cal P w K mg base (L2.CX P w) "read_term" 3 [false] (fnOf 3 [false] (b_read_term g_is_one g_word_of)) := by
  refine cal_ofX T.f_read_term sc_read_term rfl fun f cdv A outer s H E hr => ?_
  have sc := sc_read_term
  exact (dCons (dSetLc (own := [("word", 2)]) 1 rfl sc.nd (sw_true rfl rfl rfl (by decide +kernel)) (iIt (dSplit (dv 0) dStr)) (blkOk_by (N := ["text", "words", "word"]) (sc := defScope s_read_term) (by decide +kernel)) (by decide) (fun _ _ _ _ _ => (dgName 2 sc.nd)) (fun _ _ _ _ _ => tNil) (fun _ _ _ _ _ => (dCal c_word_of (hr.mono (by decide)) (dACons (dv 2) dANil))))
    (dCons (dIfS (wOr (tCmp oIn dNon (dv 1)) (wOr1 (tNot (tVal (dCal c_is_one (hr.mono (by decide)) (dACons (dv 1) dANil)))))).pt.x (dLast (dRaise T.pl_NoTerm rfl)) dNil)
    (dLast (dRet (dTuple (dv 1) T.n_tuple).x))))
/-- _law_spoiled(words, cell): 0 words, 1 cell, 2 way, 3 rest, 4 at, 5 more -/
def b_law_spoiled (g_law_odd : FS) : SS :=
    (sSeq (sAsg (sX (sOp fMod (sV 1) (sC (.int 12)))) (setS 2))
    (sSeq (sAsg (sX (sOp fDiv (sV 1) (sC (.int 12)))) (setS 3))
    (sSeq (sAsg (sX (sOp fMod (sV 3) (sCall gLen (sACons (sV 0) sANil)))) (setS 4))
    (sSeq (sAsg (sX (sOp fDiv (sV 3) (sCall gLen (sACons (sV 0) sANil)))) (setS 5))
    (sSeq (sIfS (sB (sT (sOp fEq (sV 2) (sC (.int 0))))) (sRet (sX (sCatL (sSl (sV 0) (fun _ => some none) (sOSome (sV 4))) (sSl (sV 0) (sOSome (sOp fAdd (sV 4) (sC (.int 1)))) (fun _ => some none))))) sNil)
    (sSeq (sIfS (sB (sT (sOp fEq (sV 2) (sC (.int 1))))) (sRet (sX (sCatL (sCatL (sSl (sV 0) (fun _ => some none) (sOSome (sV 4))) (sLst (sACons (sIx (sV 0) (sV 4)) sANil))) (sSl (sV 0) (sOSome (sV 4)) (fun _ => some none))))) sNil)
    (sSeq (sIfS (sB (sT (sOp fEq (sV 2) (sC (.int 2))))) (sRet (sX (sCatL (sLst (sACons (sIx (sLst (sACons (sC (.str (Str.ofString "neg"))) (sACons (sC (.str (Str.ofString "add"))) (sACons (sC (.str (Str.ofString "1"))) (sACons (sC (.str (Str.ofString "a"))) sANil))))) (sOp fMod (sV 5) (sC (.int 4)))) sANil)) (sV 0)))) sNil)
    (sSeq (sIfS (sB (sT (sOp fEq (sV 2) (sC (.int 3))))) (sRet (sX (sCatL (sV 0) (sLst (sACons (sIx (sLst (sACons (sC (.str (Str.ofString "neg"))) (sACons (sC (.str (Str.ofString "add"))) (sACons (sC (.str (Str.ofString "1"))) (sACons (sC (.str (Str.ofString "a"))) sANil))))) (sOp fMod (sV 5) (sC (.int 4)))) sANil))))) sNil)
    (sSeq (sIfS (sB (sT (sOp fLt (sV 2) (sC (.int 7))))) (sRet (sX (sCatL (sCatL (sSl (sV 0) (fun _ => some none) (sOSome (sV 4))) (sLst (sACons (sCallF g_law_odd 1 (sACons (sV 5) sANil)) sANil))) (sSl (sV 0) (sOSome (sOp fAdd (sV 4) (sC (.int 1)))) (fun _ => some none))))) sNil)
    (sSeq (sIfS (sB (sT (sOp fEq (sV 2) (sC (.int 7))))) (sRet (sX (sCatL (sCatL (sSl (sV 0) (fun _ => some none) (sOSome (sV 4))) (sLst (sACons (sIx (sLst (sACons (sC (.str (Str.ofString "add"))) (sACons (sC (.str (Str.ofString "neg"))) (sACons (sC (.str (Str.ofString "7"))) (sACons (sC (.str (Str.ofString "b"))) (sACons (sC (.str (Str.ofString "mul"))) sANil)))))) (sOp fMod (sV 5) (sC (.int 5)))) sANil))) (sSl (sV 0) (sOSome (sOp fAdd (sV 4) (sC (.int 1)))) (fun _ => some none))))) sNil)
    (sSeq (sIfS (sB (sT (sOp fEq (sV 2) (sC (.int 8))))) (sRet (sX (sCatL (sSl (sV 0) (sOSome (sV 4)) (fun _ => some none)) (sSl (sV 0) (fun _ => some none) (sOSome (sV 4)))))) sNil)
    (sSeq (sIfS (sB (sT (sOp fEq (sV 2) (sC (.int 9))))) (sRet (sX (sCatL (sCatL (sSl (sV 0) (fun _ => some none) (sOSome (sV 4))) (sLst (sACons (sC (.str (Str.ofString ""))) sANil))) (sSl (sV 0) (sOSome (sV 4)) (fun _ => some none))))) sNil)
    (sSeq (sIfS (sB (sT (sOp fEq (sV 2) (sC (.int 10))))) (sRet (sX (sCatL (sV 0) (sLst (sACons (sC (.str (Str.ofString ""))) sANil))))) sNil)
    (sRet (sX (sLst sANil))))))))))))))))
theorem sc_law_spoiled : FnScope ["words", "cell", "way", "rest", "at", "more"] ["words", "cell"] (defScope s_law_spoiled) := ⟨rfl, rfl, rfl, by decide +kernel, rfl, by decide +kernel, by decide +kernel⟩
theorem r_law_spoiled (T : Tx K mg) {g_law_odd : FS} (c_law_odd : Cal P w K mg base CX0 "_law_odd" 2 [false] g_law_odd) : Cal P w K mg base CX0 "_law_spoiled" 3 [false, false] (noEx (fnOf 6 [false, false] (b_law_spoiled g_law_odd))) := by
  refine cal_of T.f_law_spoiled sc_law_spoiled rfl fun f cdv A outer s H E hr => ?_
  have sc := sc_law_spoiled
  exact (dCons (dSet 2 (dOp oMod (dv 1) dInt).x sc.nd)
    (dCons (dSet 3 (dOp oDiv (dv 1) dInt).x sc.nd)
    (dCons (dSet 4 (dOp oMod (dv 3) (dCallB oLen (by rfl) T.n_len PySem.boot_len (dACons (dv 0) dANil))).x sc.nd)
    (dCons (dSet 5 (dOp oDiv (dv 3) (dCallB oLen (by rfl) T.n_len PySem.boot_len (dACons (dv 0) dANil))).x sc.nd)
    (dCons (dIfS (tCmp oEq (dv 2) dInt).x (dLast (dRet (dCatL (dSl (dv 0) dONone (dOSome (dv 4))) (dSl (dv 0) (dOSome (dOp oAdd (dv 4) dInt)) dONone)).x)) dNil)
    (dCons (dIfS (tCmp oEq (dv 2) dInt).x (dLast (dRet (dCatL (dCatL (dSl (dv 0) dONone (dOSome (dv 4))) (dLst (dACons (dIx (dv 0) (dv 4)) dANil))) (dSl (dv 0) (dOSome (dv 4)) dONone)).x)) dNil)
    (dCons (dIfS (tCmp oEq (dv 2) dInt).x (dLast (dRet (dCatL (dLst (dACons (dIx (dLst (dACons dStr (dACons dStr (dACons dStr (dACons dStr dANil))))) (dOp oMod (dv 5) dInt)) dANil)) (dv 0)).x)) dNil)
    (dCons (dIfS (tCmp oEq (dv 2) dInt).x (dLast (dRet (dCatL (dv 0) (dLst (dACons (dIx (dLst (dACons dStr (dACons dStr (dACons dStr (dACons dStr dANil))))) (dOp oMod (dv 5) dInt)) dANil))).x)) dNil)
    (dCons (dIfS (tCmp oLt (dv 2) dInt).x (dLast (dRet (dCatL (dCatL (dSl (dv 0) dONone (dOSome (dv 4))) (dLst (dACons (dCal c_law_odd (hr.mono (by decide)) (dACons (dv 5) dANil)) dANil))) (dSl (dv 0) (dOSome (dOp oAdd (dv 4) dInt)) dONone)).x)) dNil)
    (dCons (dIfS (tCmp oEq (dv 2) dInt).x (dLast (dRet (dCatL (dCatL (dSl (dv 0) dONone (dOSome (dv 4))) (dLst (dACons (dIx (dLst (dACons dStr (dACons dStr (dACons dStr (dACons dStr (dACons dStr dANil)))))) (dOp oMod (dv 5) dInt)) dANil))) (dSl (dv 0) (dOSome (dOp oAdd (dv 4) dInt)) dONone)).x)) dNil)
    (dCons (dIfS (tCmp oEq (dv 2) dInt).x (dLast (dRet (dCatL (dSl (dv 0) (dOSome (dv 4)) dONone) (dSl (dv 0) dONone (dOSome (dv 4)))).x)) dNil)
    (dCons (dIfS (tCmp oEq (dv 2) dInt).x (dLast (dRet (dCatL (dCatL (dSl (dv 0) dONone (dOSome (dv 4))) (dLst (dACons dStr dANil))) (dSl (dv 0) (dOSome (dv 4)) dONone)).x)) dNil)
    (dCons (dIfS (tCmp oEq (dv 2) dInt).x (dLast (dRet (dCatL (dv 0) (dLst (dACons dStr dANil))).x)) dNil)
    (dLast (dRet (dLst dANil).x)))))))))))))))
/-- _law_right(text): 0 text, 1 found, 2 caught, 3 e -/
def b_law_right (g_law_good g_read_term : FS) : SS :=
    (sSeq (sAsg (sX (sC .non)) (setS 1))
    (sSeq (sAsg (sX (sC .non)) (setS 2))
    (sSeq (sTry exNames 3 2 (sAsg (sCallR g_read_term 1 (sACons (sV 0) sANil)) (setS 1)))
    (sSeq (sIfS (sB (sT (sCallF g_law_good 1 (sACons (sV 0) sANil)))) (sRet (sX (sAnd (sOp (fIs false) (sV 2) (sC .non)) (sAnd (sIsi .tuple (sV 1)) (sOp fEq (sCall gLen (sACons (sV 1) sANil)) (sCall gLen (sACons (sSplit (sV 0) (sC (.str (Str.ofString " ")))) sANil))))))) sNil)
    (sSeq (sIfS (sB (sT (s1 (isXD supC exNames ["BadCover", "BadDeed", "BadRow", "BadShape", "NoBox", "NoCover", "NoName", "NoValue", "Twice", "Unsound"]) (sV 2)))) (sRet (sX (sC (.bl false)))) sNil)
    (sRet (sX (sAnd (s1 (isXD supC exNames ["NoTerm"]) (sV 2)) (s1 (isVE exNames) (sV 2))))))))))
theorem sc_law_right : FnScope ["text", "found", "caught", "e"] ["text"] (defScope s_law_right) := ⟨rfl, rfl, rfl, by decide +kernel, rfl, by decide +kernel, by decide +kernel⟩
theorem r_law_right (T : Tx K mg) {g_law_good : FS} (c_law_good : Cal P w K mg base CX0 "_law_good" 2 [false] g_law_good) {g_read_term : FS} (c_read_term : Cal P w K mg base (L2.CX P w) "read_term" 3 [false] g_read_term) : Cal P w K mg base CX0 "_law_right" 4 [false] (noEx (fnOf 4 [false] (b_law_right g_law_good g_read_term))) := by
  refine cal_of T.f_law_right sc_law_right rfl fun f cdv A outer s H E hr => ?_
  have sc := sc_law_right
  obtain ⟨C0, cvm, cve⟩ := T.cv.ex
  exact (dCons (dSet 1 dNon.x sc.nd)
    (dCons (dSet 2 dNon.x sc.nd)
    (dCons (dTry rfl rfl rfl rfl 3 2 (by decide) sc.nd ⟨rfl, by decide, .inl cvm⟩ cve (fun pn xe po => (dLast (dSet 1 (xCallR c_read_term (hr.mono (by decide)) (dACons (dv 0) dANil)) sc.nd))))
    (dCons (dIfS (tVal (dCal c_law_good (hr.mono (by decide)) (dACons (dv 0) dANil))).x (dLast (dRet (dAnd (dCmp oIs (dv 2) dNon) (dAnd (dIsi .tuple (dv 1) T.n_isinstance (dTy T.n_tuple)) (dOne (dCmp oEq (dCallB oLen (by rfl) T.n_len PySem.boot_len (dACons (dv 1) dANil)) (dCallB oLen (by rfl) T.n_len PySem.boot_len (dACons (dSplit (dv 0) dStr) dANil)))))).x)) dNil)
    (dCons (dIfS (tVal (dIsET T.ex (by decide +kernel) (by decide) (dv 2) (pac_cons (pac_cons (pac_cons (pac_cons (pac_cons (pac_cons (pac_cons (pac_cons (pac_cons (pac_cons pac_nil)))))))))) T.n_isinstance)).x (dLast (dRet dBl.x)) dNil)
    (dLast (dRet (dAnd (dIsE1 T.ex (by decide +kernel) (dv 2) T.n_isinstance) (dOne (dIsVE T.ex (dv 2) T.n_isinstance T.n_ValueError))).x)))))))
/-- law(script): 0 script, 1 deck, 2 words, 3 k, 4 cell, 5 spoiled -/
def b_law (g_law_right g_law_spoiled g_law_next g_law_words : FS) : SS :=
    (sSeq (sAsg (sX (sLst (sACons (sList (sSl (sV 0) (fun _ => some none) (sOSome (sC (.int 60))))) (sACons (sC (.int 0)) sANil)))) (setS 1))
    (sSeq (sAsg (sCallIO g_law_words [(some 1), none] (sXV 1 (sXC (sOpX fAdd ((fX (sX (sC (.int 1)))) (sOpX fMod ((fX (sCallIO g_law_next [(some 1)] (sXV 1 (sA sANil)))) (sX (sC (.int 40))))))) (sA sANil)))) (setS 2))
    (sSeq (sIfS (sB (tNotS (sT (sCallF g_law_right 1 (sACons (sJoin (sC (.str (Str.ofString " "))) (sV 2)) sANil))))) (sRet (sX (sC (.bl false)))) sNil)
    (sSeq (sFor (sRng (sACons (sC (.int 8)) sANil)) (setS 3) (sSeq (sAsg (sCallIO g_law_next [(some 1)] (sXV 1 (sA sANil))) (setS 4))
    (sSeq (sAsg (sX (sCallF g_law_spoiled 2 (sACons (sV 2) (sACons (sV 4) sANil)))) (setS 5))
    (sSeq (sIfS (sB (tOrS (tNotS (sT (sCallF g_law_right 1 (sACons (sJoin (sC (.str (Str.ofString " "))) (sV 5)) sANil)))) (tNotS (sT (sCallF g_law_right 1 (sACons (sJoin (sC (.str (Str.ofString " "))) (sV 2)) sANil)))))) (sRet (sX (sC (.bl false)))) sNil)
    (sSeq (sIfS (sB (tNotS (sT (sCallF g_law_right 1 (sACons (sJRep " " " " "\n" (sV 2) (sOp fAdd (sC (.int 1)) (sOp fMod (sV 4) (sC (.int 3))))) sANil))))) (sRet (sX (sC (.bl false)))) sNil)
    (sIfS (sB (tOrS (tNotS (sT (sCallF g_law_right 1 (sACons (sOp fCat (sC (.str (Str.ofString " "))) (sJoin (sC (.str (Str.ofString " "))) (sV 2))) sANil)))) (tNotS (sT (sCallF g_law_right 1 (sACons (sJoin (sC (.str (Str.ofString " "))) (sCatL (sCallF g_law_spoiled 2 (sACons (sV 2) (sACons (sOp fDiv (sV 4) (sC (.int 7))) sANil))) (sV 2))) sANil)))))) (sRet (sX (sC (.bl false)))) sNil))))))
    (sRet (sX (sAnd (sCallF g_law_right 1 (sACons (sC (.str (Str.ofString ""))) sANil)) (sAnd (sCallF g_law_right 1 (sACons (sC (.str (Str.ofString " "))) sANil)) (sAnd (sCallF g_law_right 1 (sACons (sC (.str (Str.ofString "neg"))) sANil)) (sCallF g_law_right 1 (sACons (sC (.str (Str.ofString "add 1"))) sANil)))))))))))
theorem sc_law : FnScope ["script", "deck", "words", "k", "cell", "spoiled"] ["script"] (defScope s_law) := ⟨rfl, rfl, rfl, by decide +kernel, rfl, by decide +kernel, by decide +kernel⟩
theorem r_law {f : Addr} {fd : FuncData} (F : Fun K "law" "law" s_law f fd) (T : Tx K mg) {g_law_right : FS} (c_law_right : Cal P w K mg base CX0 "_law_right" 4 [false] g_law_right) {g_law_spoiled : FS} (c_law_spoiled : Cal P w K mg base CX0 "_law_spoiled" 3 [false, false] g_law_spoiled) {g_law_next : FS} (c_law_next : Cal P w K mg base CX0 "_law_next" 1 [true] g_law_next) {g_law_words : FS} (c_law_words : Cal P w K mg base CX0 "_law_words" 2 [true, false] g_law_words) : FnOk P w K mg base CX0 5 f fd ["script"] (spD K [false] (noEx (fnOf 6 [false] (b_law g_law_right g_law_spoiled g_law_next g_law_words)))) := by
  refine def_ok F sc_law rfl fun cdv A outer s H E hr => ?_
  have sc := sc_law
  exact (dCons (dSet 1 (dLst (dACons (dList (dSl (dv 0) dONone (dOSome dInt)) T.n_list) (dACons dInt dANil))).x sc.nd)
    (dCons (dSet 2 (xCallIO (is := [(some 1), none]) c_law_words (hr.mono (by decide)) (xiV 1 (xiC (xOp oAdd (pfX dInt.x) (xOp oMod (pfX (xCallIO (is := [(some 1)]) c_law_next (hr.mono (by decide)) (xiV 1 (xiT dANil.x 0) (.inr rfl)))) dInt.x)) (xiT dANil.x 0)) (.inr rfl))) sc.nd)
    (dCons (dIfS (tNot (tVal (dCal c_law_right (hr.mono (by decide)) (dACons (dJoin dStr (dv 2)) dANil)))).x (dLast (dRet dBl.x)) dNil)
    (dCons (dFor PassesOwn.never rfl (iRng1 (by rfl) T.n_range (dACons dInt dANil)) (dgName 3 sc.nd) (dCons (dSet 4 (xCallIO (is := [(some 1)]) c_law_next (hr.mono (by decide)) (xiV 1 (xiT dANil.x 0) (.inr rfl))) sc.nd)
    (dCons (dSet 5 (dCal c_law_spoiled (hr.mono (by decide)) (dACons (dv 2) (dACons (dv 4) dANil))).x sc.nd)
    (dCons (dIfS (wOr (tNot (tVal (dCal c_law_right (hr.mono (by decide)) (dACons (dJoin dStr (dv 5)) dANil)))) (wOr1 (tNot (tVal (dCal c_law_right (hr.mono (by decide)) (dACons (dJoin dStr (dv 2)) dANil)))))).pt.x (dLast (dRet dBl.x)) dNil)
    (dCons (dIfS (tNot (tVal (dCal c_law_right (hr.mono (by decide)) (dACons (dJRep (dv 2) (dOp oAdd dInt (dOp oMod (dv 4) dInt))) dANil)))).x (dLast (dRet dBl.x)) dNil)
    (dLast (dIfS (wOr (tNot (tVal (dCal c_law_right (hr.mono (by decide)) (dACons (dOp oCat dStr (dJoin dStr (dv 2))) dANil)))) (wOr1 (tNot (tVal (dCal c_law_right (hr.mono (by decide)) (dACons (dJoin dStr (dCatL (dCal c_law_spoiled (hr.mono (by decide)) (dACons (dv 2) (dACons (dOp oDiv (dv 4) dInt) dANil))) (dv 2))) dANil)))))).pt.x (dLast (dRet dBl.x)) dNil)))))))
    (dLast (dRet (dAnd (dCal c_law_right (hr.mono (by decide)) (dACons dStr dANil)) (dAnd (dCal c_law_right (hr.mono (by decide)) (dACons dStr dANil)) (dAnd (dCal c_law_right (hr.mono (by decide)) (dACons dStr dANil)) (dOne (dCal c_law_right (hr.mono (by decide)) (dACons dStr dANil)))))).x))))))
end
abbrev G_is_name : FS := noEx (fnOf 2 [false] (b_is_name))
/-- is_name(word) -/
def p_is_name : List D → R (D × List D) := noexF (ar1 fun word =>
    (iteR (orT (tR (op2 (fIn false) (R.ok word) (R.ok k_KEPT))) (orT (tR (op2 fLt (bltR gLen (consR (R.ok word) (R.ok ([] : List D)))) (R.ok (D.int 1)))) (tR (op2 fGt (bltR gLen (consR (R.ok word) (R.ok ([] : List D)))) (R.ok (D.int 8))))))
    ((R.ok (D.bl false)).bnd fun d => R.ok (d, []))
    ((bltR gAll (consR (lcD (itR itSD (R.ok word)) (fun d => (R.ok d).bnd fun sign => (R.ok true)) (fun d => (R.ok d).bnd fun sign => (op2 (fInS false) (R.ok sign) (R.ok k_LETTERS)))) (R.ok ([] : List D)))).bnd fun d => R.ok (d, []))))
theorem F_is_name : FRef G_is_name [false] p_is_name := fref1 fun word =>
    (tl_if (et_or (et_s (ee (ef_op (ee_v rfl rfl) (ee ef_c)))) (et_or (et_s (ee (ef_op (ee (ef_blt (al_cons (ee_v rfl rfl) al_nil))) (ee ef_c)))) (et_s (ee (ef_op (ee (ef_blt (al_cons (ee_v rfl rfl) al_nil))) (ee ef_c))))))
    (tl_ret ef_c (xret_F rfl))
    (tl_nilS (tl_last (tl_ret (ef_blt (al_cons (ee (ef_lc (eik (ei_itS (ee_v rfl rfl))) (tg_n rfl rfl) (fun _ => et_yes) (fun _ => (ef_op (ee_v rfl rfl) (ee ef_c))))) al_nil)) (xret_F rfl)))))
abbrev G_is_number : FS := noEx (fnOf 3 [false] (b_is_number))
/-- is_number(word) -/
def p_is_number : List D → R (D × List D) := noexF (ar1 fun word =>
    (R.bnd (immR (R.ok word)) fun figures =>
    (R.bnd (iteR (tR (op2 fEq (slR (R.ok word) (R.ok (none : Option Int)) (oSo (R.ok (D.int 1)))) (R.ok (D.str (Str.ofString "-")))))
    (R.bnd (lfR (slR (R.ok word) (oSo (R.ok (D.int 1))) (R.ok (none : Option Int)))) fun figures_3 =>
    (R.ok figures_3))
    (R.ok figures)) fun j_figures_1 =>
    (iteR (orT (tR (op2 fLt (bltR gLen (consR (R.ok j_figures_1) (R.ok ([] : List D)))) (R.ok (D.int 1)))) (tR (op2 fGt (bltR gLen (consR (R.ok j_figures_1) (R.ok ([] : List D)))) (R.ok (D.int 60)))))
    ((R.ok (D.bl false)).bnd fun d => R.ok (d, []))
    (iteR (notT (tR (bltR gAll (consR (lcD (itR itSD (R.ok j_figures_1)) (fun d => (R.ok d).bnd fun sign => (R.ok true)) (fun d => (R.ok d).bnd fun sign => (op2 (fInS false) (R.ok sign) (R.ok (D.str (Str.ofString "0123456789")))))) (R.ok ([] : List D))))))
    ((R.ok (D.bl false)).bnd fun d => R.ok (d, []))
    ((orR (op2 fNe (op2 ixD (R.ok j_figures_1) (R.ok (D.int 0))) (R.ok (D.str (Str.ofString "0")))) (op2 fEq (R.ok word) (R.ok (D.str (Str.ofString "0"))))).bnd fun d => R.ok (d, [])))))))
theorem F_is_number : FRef G_is_number [false] p_is_number := fref1 fun word =>
    (tl_asgE (ef_v rfl rfl) rfl rfl (fun figures =>
    (tl_join (post := fun (t : D) => [.s word, .o t, .u]) (tl_last (tl_if (et_s (ee (ef_op (ee_sl (ee_v rfl rfl) eo_none (eo_s (ee ef_c))) (ee ef_c))))
    (tl_asgE (ef_sl (ee_v rfl rfl) (eo_s (ee ef_c)) eo_none) rfl rfl (fun figures_3 =>
    (tl_endJ (wkC pw_r (wkC pw_r (wkC pw_r wkN))))))
    (tl_nilS (tl_endJ (wkC pw_r (wkC pw_r (wkC pw_r wkN))))))) (fun j_figures_1 =>
    (tl_if (et_or (et_s (ee (ef_op (ee (ef_blt (al_cons (ee_v rfl rfl) al_nil))) (ee ef_c)))) (et_s (ee (ef_op (ee (ef_blt (al_cons (ee_v rfl rfl) al_nil))) (ee ef_c)))))
    (tl_ret ef_c (xret_F rfl))
    (tl_nilS (tl_if (et_not (et_s (ee (ef_blt (al_cons (ee (ef_lc (eik (ei_itS (ee_v rfl rfl))) (tg_n rfl rfl) (fun _ => et_yes) (fun _ => (ef_op (ee_v rfl rfl) (ee ef_c))))) al_nil)))))
    (tl_ret ef_c (xret_F rfl))
    (tl_nilS (tl_last (tl_ret (ef_or (ee (ef_op (ee_ix (ee_v rfl rfl) (ee ef_c)) (ee ef_c))) (ef_op (ee_v rfl rfl) (ee ef_c))) (xret_F rfl)))))))))))
abbrev G_wanted_by : FS := noEx (fnOf 1 [false] (b_wanted_by))
/-- wanted_by(word) -/
def p_wanted_by : List D → R (D × List D) := noexF (ar1 fun word =>
    (iteR (tR (op2 (fIn false) (R.ok word) (R.ok k_PAIRS)))
    ((R.ok (D.int 2)).bnd fun d => R.ok (d, []))
    (iteR (tR (op2 fEq (R.ok word) (R.ok (D.str (Str.ofString "neg")))))
    ((R.ok (D.int 1)).bnd fun d => R.ok (d, []))
    ((R.ok (D.int 0)).bnd fun d => R.ok (d, [])))))
theorem F_wanted_by : FRef G_wanted_by [false] p_wanted_by := fref1 fun word =>
    (tl_if (et_s (ee (ef_op (ee_v rfl rfl) (ee ef_c))))
    (tl_ret ef_c (xret_F rfl))
    (tl_nilS (tl_if (et_s (ee (ef_op (ee_v rfl rfl) (ee ef_c))))
    (tl_ret ef_c (xret_F rfl))
    (tl_nilS (tl_last (tl_ret ef_c (xret_F rfl)))))))
abbrev G_law_next : FS := noEx (fnOf 2 [true] (b_law_next))
/-- _law_next(deck) writes deck -/
def p_law_next : List D → R (D × List D) := noexF (ar1 fun deck =>
    (R.bnd (immR (op2 ixD (R.ok deck) (R.ok (D.int 1)))) fun at_ =>
    (R.bnd (setR deck (R.ok (D.int 1)) (op2 fAdd (R.ok at_) (R.ok (D.int 1)))) fun deck_2 =>
    (iteR (tR (op2 fLt (R.ok at_) (bltR gLen (consR (op2 ixD (R.ok deck_2) (R.ok (D.int 0))) (R.ok ([] : List D))))))
    ((immR (op2 ixD (op2 ixD (R.ok deck_2) (R.ok (D.int 0))) (R.ok at_))).bnd fun d => R.ok (d, [deck_2]))
    ((op2 fMod (op2 fAdd (op2 fAdd (op2 fMul (op2 fMul (op2 fMul (R.ok at_) (R.ok at_)) (R.ok at_)) (R.ok (D.int 7))) (op2 fMul (op2 fMul (R.ok (D.int 31)) (R.ok at_)) (R.ok at_))) (bltR gSum (consR (slR (op2 ixD (R.ok deck_2) (R.ok (D.int 0))) (R.ok (none : Option Int)) (oSo (R.ok (D.int 40)))) (R.ok ([] : List D))))) (R.ok (D.int 1000000007))).bnd fun d => R.ok (d, [deck_2]))))))
theorem F_law_next : FRef G_law_next [true] p_law_next := fref1 fun deck =>
    (tl_asgE (ef_ix (ee_v rfl rfl) (ee ef_c)) rfl rfl (fun at_ =>
    (tl_setIx (ee ef_c) (ef_op (ee_v rfl rfl) (ee ef_c)) rfl rfl (fun deck_2 =>
    (tl_if (et_s (ee (ef_op (ee_v rfl rfl) (ee (ef_blt (al_cons (ee_ix (ee_v rfl rfl) (ee ef_c)) al_nil))))))
    (tl_ret (ef_ix (ee_ix (ee_v rfl rfl) (ee ef_c)) (ee_v rfl rfl)) (xret_F rfl))
    (tl_nilS (tl_last (tl_ret (ef_op (ee (ef_op (ee (ef_op (ee (ef_op (ee (ef_op (ee (ef_op (ee_v rfl rfl) (ee_v rfl rfl))) (ee_v rfl rfl))) (ee ef_c))) (ee (ef_op (ee (ef_op (ee ef_c) (ee_v rfl rfl))) (ee_v rfl rfl))))) (ee (ef_blt (al_cons (ee_sl (ee_ix (ee_v rfl rfl) (ee ef_c)) eo_none (eo_s (ee ef_c))) al_nil))))) (ee ef_c)) (xret_F rfl)))))))))
abbrev G_law_drawn : FS := noEx (fnOf 8 [false] (b_law_drawn))
/-- _law_drawn(cell) -/
def p_law_drawn : List D → R (D × List D) := noexF (ar1 fun cell =>
    (R.bnd (R.ok (D.str (Str.ofString "abcdefghijklmnopqrstuvwxyz"))) fun letters =>
    (R.bnd (R.ok (D.str (Str.ofString " !#$&'()*+,-./0189:;<=>?@AEZ[]^_`aelxz{|}~\n\"\\"))) fun signs =>
    (R.bnd (op2 fDiv (R.ok cell) (R.ok (D.int 4))) fun rest_ =>
    (R.bnd (op2 fMod (op2 fMul (op2 fAdd (op2 fMod (R.ok rest_) (R.ok (D.int 1000003))) (R.ok (D.int 7))) (R.ok (D.int 48271))) (R.ok (D.int 2147483629))) fun spun =>
    (R.bnd (op2 fMod (op2 fMul (R.ok spun) (R.ok spun)) (R.ok (D.int 2147483587))) fun spun_2 =>
    (R.bnd (op2 fCat (op2 ixD (lstR (consR (R.ok (D.str (Str.ofString ""))) (consR (R.ok (D.str (Str.ofString "-"))) (consR (R.ok (D.str (Str.ofString "0"))) (consR (R.ok (D.str (Str.ofString "-0"))) (consR (R.ok (D.str (Str.ofString "00"))) (consR (R.ok (D.str (Str.ofString "-00"))) (R.ok ([] : List D))))))))) (op2 fMod (R.ok spun_2) (R.ok (D.int 6)))) (bltR gStr (consR (op2 fMod (R.ok rest_) (R.ok (D.int 100))) (R.ok ([] : List D))))) fun word =>
    (R.bnd (iteR (tR (op2 fEq (op2 fMod (R.ok cell) (R.ok (D.int 4))) (R.ok (D.int 1))))
    (R.bnd (op2 fCat (op2 fCat (op2 ixD (lstR (consR (R.ok (D.str (Str.ofString ""))) (consR (R.ok (D.str (Str.ofString "-"))) (consR (R.ok (D.str (Str.ofString "0"))) (consR (R.ok (D.str (Str.ofString "-0"))) (R.ok ([] : List D))))))) (op2 fMod (R.ok spun_2) (R.ok (D.int 4)))) (op2 fRepS (R.ok (D.str (Str.ofString "1234567890"))) (op2 fMod (R.ok rest_) (R.ok (D.int 7))))) (slR (bltR gStr (consR (R.ok spun_2) (R.ok ([] : List D)))) (R.ok (none : Option Int)) (oSo (op2 fMod (op2 fDiv (R.ok rest_) (R.ok (D.int 7))) (R.ok (D.int 10)))))) fun word_3 =>
    (R.ok word_3))
    (R.ok word)) fun j_word_1 =>
    (R.bnd (iteR (tR (op2 fEq (op2 fMod (R.ok cell) (R.ok (D.int 4))) (R.ok (D.int 2))))
    (R.bnd (op2 joinD (R.ok (D.str (Str.ofString ""))) (lcD (itA rngR (consR (op2 fMod (R.ok rest_) (R.ok (D.int 12))) (R.ok ([] : List D)))) (fun d => (R.ok d).bnd fun k_2 => (R.ok true)) (fun d => (R.ok d).bnd fun k_2 => (immR (op2 ixD (R.ok letters) (op2 fMod (op2 fDiv (R.ok spun_2) (op2 fAdd (R.ok k_2) (R.ok (D.int 1)))) (R.ok (D.int 26)))))))) fun word_5 =>
    (R.ok word_5))
    (R.ok j_word_1)) fun j_word_2 =>
    (R.bnd (iteR (tR (op2 fEq (op2 fMod (R.ok cell) (R.ok (D.int 4))) (R.ok (D.int 3))))
    (R.bnd (immR (op2 ixD (lstR (consR (R.ok (D.str (Str.ofString "add"))) (consR (R.ok (D.str (Str.ofString "sub"))) (consR (R.ok (D.str (Str.ofString "mul"))) (consR (R.ok (D.str (Str.ofString "neg"))) (consR (R.ok (D.str (Str.ofString "any"))) (consR (R.ok (D.str (Str.ofString "var"))) (consR (R.ok (D.str (Str.ofString "put"))) (consR (R.ok (D.str (Str.ofString "load"))) (consR (R.ok (D.str (Str.ofString "out"))) (R.ok ([] : List D)))))))))))) (op2 fMod (R.ok rest_) (R.ok (D.int 9))))) fun word_8 =>
    (R.bnd (immR (op2 ixD (lstR (consR (op2 fCat (R.ok word_8) (op2 ixD (R.ok letters) (op2 fMod (R.ok spun_2) (R.ok (D.int 26))))) (consR (un1 upperD (R.ok word_8)) (consR (op2 fCat (op2 ixD (R.ok letters) (op2 fMod (R.ok spun_2) (R.ok (D.int 26)))) (R.ok word_8)) (R.ok ([] : List D)))))) (op2 fMod (op2 fDiv (R.ok rest_) (R.ok (D.int 9))) (R.ok (D.int 3))))) fun word_9 =>
    (R.ok word_9)))
    (R.ok j_word_2)) fun j_word_3 =>
    (R.bnd (iteR (tR (op2 fEq (op2 fMod (op2 fDiv (R.ok spun_2) (R.ok (D.int 26))) (R.ok (D.int 3))) (R.ok (D.int 1))))
    (R.bnd (op2 fMod (op2 fDiv (R.ok spun_2) (R.ok (D.int 78))) (op2 fAdd (bltR gLen (consR (R.ok j_word_3) (R.ok ([] : List D)))) (R.ok (D.int 1)))) fun at__2 =>
    (R.bnd (op2 fCat (op2 fCat (slR (R.ok j_word_3) (R.ok (none : Option Int)) (oSo (R.ok at__2))) (op2 ixD (R.ok signs) (op2 fMod (op2 fDiv (R.ok spun_2) (R.ok (D.int 1000))) (bltR gLen (consR (R.ok signs) (R.ok ([] : List D))))))) (slR (R.ok j_word_3) (oSo (R.ok at__2)) (R.ok (none : Option Int)))) fun word_11 =>
    (R.ok word_11)))
    (R.ok j_word_3)) fun j_word_4 =>
    ((immR (R.ok j_word_4)).bnd fun d => R.ok (d, [])))))))))))))
theorem F_law_drawn : FRef G_law_drawn [false] p_law_drawn := fref1 fun cell =>
    (tl_asgE ef_c rfl rfl (fun letters =>
    (tl_asgE ef_c rfl rfl (fun signs =>
    (tl_asgE (ef_op (ee_v rfl rfl) (ee ef_c)) rfl rfl (fun rest_ =>
    (tl_asgE (ef_op (ee (ef_op (ee (ef_op (ee (ef_op (ee_v rfl rfl) (ee ef_c))) (ee ef_c))) (ee ef_c))) (ee ef_c)) rfl rfl (fun spun =>
    (tl_asgE (ef_op (ee (ef_op (ee_v rfl rfl) (ee_v rfl rfl))) (ee ef_c)) rfl rfl (fun spun_2 =>
    (tl_asgE (ef_op (ee_ix (ee (ef_lst (as_f ef_c (as_f ef_c (as_f ef_c (as_f ef_c (as_f ef_c (as_f ef_c as_nil)))))) rfl)) (ee (ef_op (ee_v rfl rfl) (ee ef_c)))) (ee (ef_blt (al_cons (ee (ef_op (ee_v rfl rfl) (ee ef_c))) al_nil)))) rfl rfl (fun word =>
    (tl_join (post := fun (t : D) => [.s cell, .o letters, .o signs, .o rest_, .o spun_2, .o t, .u, .u]) (tl_last (tl_if (et_s (ee (ef_op (ee (ef_op (ee_v rfl rfl) (ee ef_c))) (ee ef_c))))
    (tl_asgE (ef_op (ee (ef_op (ee_ix (ee (ef_lst (as_f ef_c (as_f ef_c (as_f ef_c (as_f ef_c as_nil)))) rfl)) (ee (ef_op (ee_v rfl rfl) (ee ef_c)))) (ee (ef_op (ee ef_c) (ee (ef_op (ee_v rfl rfl) (ee ef_c))))))) (ee_sl (ee (ef_blt (al_cons (ee_v rfl rfl) al_nil))) eo_none (eo_s (ee (ef_op (ee (ef_op (ee_v rfl rfl) (ee ef_c))) (ee ef_c)))))) rfl rfl (fun word_3 =>
    (tl_endJ (wkC pw_r (wkC pw_r (wkC pw_r (wkC pw_r (wkC pw_r (wkC pw_r (wkC pw_r (wkC pw_r wkN)))))))))))
    (tl_nilS (tl_endJ (wkC pw_r (wkC pw_r (wkC pw_r (wkC pw_r (wkC pw_r (wkC pw_r (wkC pw_r (wkC pw_r wkN)))))))))))) (fun j_word_1 =>
    (tl_join (post := fun (t : D) => [.s cell, .o letters, .o signs, .o rest_, .o spun_2, .o t, .u, .u]) (tl_last (tl_if (et_s (ee (ef_op (ee (ef_op (ee_v rfl rfl) (ee ef_c))) (ee ef_c))))
    (tl_asgE (ef_join (ee ef_c) (ee (ef_lc (eik (ei_rng (al_cons (ee (ef_op (ee_v rfl rfl) (ee ef_c))) al_nil))) (tg_n rfl rfl) (fun _ => et_yes) (fun _ => (ef_ix (ee_v rfl rfl) (ee (ef_op (ee (ef_op (ee_v rfl rfl) (ee (ef_op (ee_v rfl rfl) (ee ef_c))))) (ee ef_c)))))))) rfl rfl (fun word_5 =>
    (tl_endJ (wkC pw_r (wkC pw_r (wkC pw_r (wkC pw_r (wkC pw_r (wkC pw_r (wkC pw_r (wkC pw_r wkN)))))))))))
    (tl_nilS (tl_endJ (wkC pw_r (wkC pw_r (wkC pw_r (wkC pw_r (wkC pw_r (wkC pw_r (wkC pw_r (wkC pw_r wkN)))))))))))) (fun j_word_2 =>
    (tl_join (post := fun (t : D) => [.s cell, .o letters, .o signs, .o rest_, .o spun_2, .o t, .u, .u]) (tl_last (tl_if (et_s (ee (ef_op (ee (ef_op (ee_v rfl rfl) (ee ef_c))) (ee ef_c))))
    (tl_assoc (tl_asgE (ef_ix (ee (ef_lst (as_f ef_c (as_f ef_c (as_f ef_c (as_f ef_c (as_f ef_c (as_f ef_c (as_f ef_c (as_f ef_c (as_f ef_c as_nil))))))))) rfl)) (ee (ef_op (ee_v rfl rfl) (ee ef_c)))) rfl rfl (fun word_8 =>
    (tl_asgE (ef_ix (ee (ef_lst (as_f (ef_op (ee_v rfl rfl) (ee_ix (ee_v rfl rfl) (ee (ef_op (ee_v rfl rfl) (ee ef_c))))) (as_f (ef_upper (ee_v rfl rfl)) (as_f (ef_op (ee_ix (ee_v rfl rfl) (ee (ef_op (ee_v rfl rfl) (ee ef_c)))) (ee_v rfl rfl)) as_nil))) rfl)) (ee (ef_op (ee (ef_op (ee_v rfl rfl) (ee ef_c))) (ee ef_c)))) rfl rfl (fun word_9 =>
    (tl_endJ (wkC pw_r (wkC pw_r (wkC pw_r (wkC pw_r (wkC pw_r (wkC pw_r (wkC pw_r (wkC pw_r wkN))))))))))))))
    (tl_nilS (tl_endJ (wkC pw_r (wkC pw_r (wkC pw_r (wkC pw_r (wkC pw_r (wkC pw_r (wkC pw_r (wkC pw_r wkN)))))))))))) (fun j_word_3 =>
    (tl_join (post := fun (t : D) => [.s cell, .o letters, .o signs, .o rest_, .o spun_2, .o t, .u, .u]) (tl_last (tl_if (et_s (ee (ef_op (ee (ef_op (ee (ef_op (ee_v rfl rfl) (ee ef_c))) (ee ef_c))) (ee ef_c))))
    (tl_assoc (tl_asgE (ef_op (ee (ef_op (ee_v rfl rfl) (ee ef_c))) (ee (ef_op (ee (ef_blt (al_cons (ee_v rfl rfl) al_nil))) (ee ef_c)))) rfl rfl (fun at__2 =>
    (tl_asgE (ef_op (ee (ef_op (ee_sl (ee_v rfl rfl) eo_none (eo_s (ee_v rfl rfl))) (ee_ix (ee_v rfl rfl) (ee (ef_op (ee (ef_op (ee_v rfl rfl) (ee ef_c))) (ee (ef_blt (al_cons (ee_v rfl rfl) al_nil)))))))) (ee_sl (ee_v rfl rfl) (eo_s (ee_v rfl rfl)) eo_none)) rfl rfl (fun word_11 =>
    (tl_endJ (wkC pw_r (wkC pw_r (wkC pw_r (wkC pw_r (wkC pw_r (wkC pw_r (wkC pw_ou (wkC pw_r wkN))))))))))))))
    (tl_nilS (tl_endJ (wkC pw_r (wkC pw_r (wkC pw_r (wkC pw_r (wkC pw_r (wkC pw_r (wkC pw_r (wkC pw_r wkN)))))))))))) (fun j_word_4 =>
    (tl_last (tl_retI rfl rfl (xret_F rfl)))))))))))))))))))))))
abbrev G_law_good_word : FS := noEx (fnOf 5 [false] (b_law_good_word))
/-- _law_good_word(word) -/
def p_law_good_word : List D → R (D × List D) := noexF (ar1 fun word =>
    (iteR (tR (op2 (fIn false) (R.ok word) (lstR (consR (R.ok (D.str (Str.ofString "add"))) (consR (R.ok (D.str (Str.ofString "sub"))) (consR (R.ok (D.str (Str.ofString "mul"))) (consR (R.ok (D.str (Str.ofString "neg"))) (R.ok ([] : List D)))))))))
    ((R.ok (D.bl true)).bnd fun d => R.ok (d, []))
    (iteR (tR (op2 (fIn false) (R.ok word) (lstR (consR (R.ok (D.str (Str.ofString "any"))) (consR (R.ok (D.str (Str.ofString "var"))) (consR (R.ok (D.str (Str.ofString "put"))) (consR (R.ok (D.str (Str.ofString "load"))) (consR (R.ok (D.str (Str.ofString "out"))) (R.ok ([] : List D))))))))))
    ((R.ok (D.bl false)).bnd fun d => R.ok (d, []))
    (R.bnd (lcD (itR itSD (R.ok word)) (fun d => (R.ok d).bnd fun sign => (tR (op2 (fInS false) (R.ok sign) (R.ok (D.str (Str.ofString "abcdefghijklmnopqrstuvwxyz")))))) (fun d => (R.ok d).bnd fun sign => (immR (R.ok sign)))) fun letters =>
    (iteR (andT (tR (chnR fLt fLt (R.ok (D.int 0)) (bltR gLen (consR (R.ok word) (R.ok ([] : List D)))) (R.ok (D.int 9)))) (tR (op2 fEq (bltR gLen (consR (R.ok letters) (R.ok ([] : List D)))) (bltR gLen (consR (R.ok word) (R.ok ([] : List D)))))))
    ((R.ok (D.bl true)).bnd fun d => R.ok (d, []))
    (R.bnd (immR (R.ok word)) fun left =>
    (R.bnd (iteR (tR (op2 fEq (slR (R.ok word) (R.ok (none : Option Int)) (oSo (R.ok (D.int 1)))) (R.ok (D.str (Str.ofString "-")))))
    (R.bnd (lfR (slR (R.ok word) (oSo (R.ok (D.int 1))) (R.ok (none : Option Int)))) fun left_3 =>
    (R.ok left_3))
    (R.ok left)) fun j_left_1 =>
    (R.bnd (lcD (itR itSD (R.ok j_left_1)) (fun d => (R.ok d).bnd fun sign_2 => (tR (op2 (fInS false) (R.ok sign_2) (R.ok (D.str (Str.ofString "0123456789")))))) (fun d => (R.ok d).bnd fun sign_2 => (immR (R.ok sign_2)))) fun figures =>
    (iteR (orT (tR (op2 fEq (R.ok j_left_1) (R.ok (D.str (Str.ofString ""))))) (orT (tR (op2 fGt (bltR gLen (consR (R.ok j_left_1) (R.ok ([] : List D)))) (R.ok (D.int 60)))) (orT (tR (op2 fLt (bltR gLen (consR (R.ok figures) (R.ok ([] : List D)))) (bltR gLen (consR (R.ok j_left_1) (R.ok ([] : List D)))))) (tR (op2 fEq (R.ok word) (R.ok (D.str (Str.ofString "-0"))))))))
    ((R.ok (D.bl false)).bnd fun d => R.ok (d, []))
    ((orR (op2 fEq (R.ok j_left_1) (R.ok (D.str (Str.ofString "0")))) (op2 fNe (op2 ixD (R.ok j_left_1) (R.ok (D.int 0))) (R.ok (D.str (Str.ofString "0"))))).bnd fun d => R.ok (d, [])))))))))))
theorem F_law_good_word : FRef G_law_good_word [false] p_law_good_word := fref1 fun word =>
    (tl_if (et_s (ee (ef_op (ee_v rfl rfl) (ee (ef_lst (as_f ef_c (as_f ef_c (as_f ef_c (as_f ef_c as_nil)))) rfl)))))
    (tl_ret ef_c (xret_F rfl))
    (tl_nilS (tl_if (et_s (ee (ef_op (ee_v rfl rfl) (ee (ef_lst (as_f ef_c (as_f ef_c (as_f ef_c (as_f ef_c (as_f ef_c as_nil))))) rfl)))))
    (tl_ret ef_c (xret_F rfl))
    (tl_nilS (tl_asgE (ef_lc (eik (ei_itS (ee_v rfl rfl))) (tg_n rfl rfl) (fun _ => (et_s (ee (ef_op (ee_v rfl rfl) (ee ef_c))))) (fun _ => (ef_v rfl rfl))) rfl rfl (fun letters =>
    (tl_if (et_and (et_s (ee (ef_chn (ee ef_c) (ee (ef_blt (al_cons (ee_v rfl rfl) al_nil))) (ee ef_c)))) (et_s (ee (ef_op (ee (ef_blt (al_cons (ee_v rfl rfl) al_nil))) (ee (ef_blt (al_cons (ee_v rfl rfl) al_nil)))))))
    (tl_ret ef_c (xret_F rfl))
    (tl_nilS (tl_asgE (ef_v rfl rfl) rfl rfl (fun left =>
    (tl_join (post := fun (t : D) => [.s word, .o letters, .o t, .u, .u]) (tl_last (tl_if (et_s (ee (ef_op (ee_sl (ee_v rfl rfl) eo_none (eo_s (ee ef_c))) (ee ef_c))))
    (tl_asgE (ef_sl (ee_v rfl rfl) (eo_s (ee ef_c)) eo_none) rfl rfl (fun left_3 =>
    (tl_endJ (wkC pw_r (wkC pw_r (wkC pw_r (wkC pw_r (wkC pw_r wkN))))))))
    (tl_nilS (tl_endJ (wkC pw_r (wkC pw_r (wkC pw_r (wkC pw_r (wkC pw_r wkN))))))))) (fun j_left_1 =>
    (tl_asgE (ef_lc (eik (ei_itS (ee_v rfl rfl))) (tg_n rfl rfl) (fun _ => (et_s (ee (ef_op (ee_v rfl rfl) (ee ef_c))))) (fun _ => (ef_v rfl rfl))) rfl rfl (fun figures =>
    (tl_if (et_or (et_s (ee (ef_op (ee_v rfl rfl) (ee ef_c)))) (et_or (et_s (ee (ef_op (ee (ef_blt (al_cons (ee_v rfl rfl) al_nil))) (ee ef_c)))) (et_or (et_s (ee (ef_op (ee (ef_blt (al_cons (ee_v rfl rfl) al_nil))) (ee (ef_blt (al_cons (ee_v rfl rfl) al_nil)))))) (et_s (ee (ef_op (ee_v rfl rfl) (ee ef_c)))))))
    (tl_ret ef_c (xret_F rfl))
    (tl_nilS (tl_last (tl_ret (ef_or (ee (ef_op (ee_v rfl rfl) (ee ef_c))) (ef_op (ee_ix (ee_v rfl rfl) (ee ef_c)) (ee ef_c))) (xret_F rfl)))))))))))))))))))
abbrev G_word_of : FS := noEx (fnOf 1 [false] (b_word_of G_wanted_by G_is_name G_is_number))
/-- word_of(text) -/
def p_word_of : List D → R (D × List D) := noexF (ar1 fun text =>
    (iteR (tR (callP p_is_number (consR (R.ok text) (R.ok ([] : List D)))))
    ((bltR gInt (consR (R.ok text) (R.ok ([] : List D)))).bnd fun d => R.ok (d, []))
    (iteR (orT (tR (callP p_is_name (consR (R.ok text) (R.ok ([] : List D))))) (tR (op2 fGt (callP p_wanted_by (consR (R.ok text) (R.ok ([] : List D)))) (R.ok (D.int 0)))))
    ((immR (R.ok text)).bnd fun d => R.ok (d, []))
    ((R.ok D.non).bnd fun d => R.ok (d, [])))))
theorem F_word_of : FRef G_word_of [false] p_word_of := fref1 fun text =>
    (tl_if (et_s (ee (ef_call F_is_number (al_cons (ee_v rfl rfl) al_nil))))
    (tl_ret (ef_blt (al_cons (ee_v rfl rfl) al_nil)) (xret_F rfl))
    (tl_nilS (tl_if (et_or (et_s (ee (ef_call F_is_name (al_cons (ee_v rfl rfl) al_nil)))) (et_s (ee (ef_op (ee (ef_call F_wanted_by (al_cons (ee_v rfl rfl) al_nil))) (ee ef_c)))))
    (tl_retI rfl rfl (xret_F rfl))
    (tl_nilS (tl_last (tl_ret ef_c (xret_F rfl)))))))
abbrev G_is_one : FS := noEx (fnOf 3 [false] (b_is_one G_wanted_by))
/-- is_one(words) -/
def p_is_one : List D → R (D × List D) := noexF (ar1 fun words =>
    (R.bnd (R.ok (D.int 1)) fun due =>
    (thenS ((itR itLD (R.ok words)).bnd fun xs => forS (fun x l_due_1 => (R.ok x).bnd fun word_3 =>
    (iteR (tR (op2 fEq (R.ok l_due_1) (R.ok (D.int 0))))
    ((R.ok (D.bl false)).bnd fun d => R.ok (Step.rt (d, [])))
    (R.bnd (op2 fAdd (op2 fSub (R.ok l_due_1) (R.ok (D.int 1))) (callP p_wanted_by (consR (R.ok word_3) (R.ok ([] : List D))))) fun due_4 =>
    (R.ok (Step.nx due_4))))) xs due) fun e_due_2 =>
    ((op2 fEq (R.ok e_due_2) (R.ok (D.int 0))).bnd fun d => R.ok (d, [])))))
theorem F_is_one : FRef G_is_one [false] p_is_one := fref1 fun words =>
    (tl_asgE ef_c rfl rfl (fun due =>
    (tl_forS (post := fun (t : D) => [.s words, .o t, .u]) due (eik_v rfl rfl) rfl (wkC pw_r (wkC pw_r (wkC pw_r wkN))) (fun _ => (tg_n rfl rfl)) (fun word_3 l_due_1 =>
    (tl_if (et_s (ee (ef_op (ee_v rfl rfl) (ee ef_c))))
    (tl_ret ef_c (xret_S (xret_F rfl)))
    (tl_nilS (tl_last (tl_asgE (ef_op (ee (ef_op (ee_v rfl rfl) (ee ef_c))) (ee (ef_call F_wanted_by (al_cons (ee_v rfl rfl) al_nil)))) rfl rfl (fun due_4 =>
    (tl_endS (wkC pw_r (wkC pw_r (wkC pw_su wkN)))))))))) (fun e_due_2 =>
    (tl_last (tl_ret (ef_op (ee_v rfl rfl) (ee ef_c)) (xret_F rfl)))))))
abbrev G_law_words : FS := noEx (fnOf 8 [true, false] (b_law_words G_law_next))
/-- _law_words(deck, most) writes deck -/
def p_law_words : List D → R (D × List D) := noexF (ar2 fun deck most =>
    (R.bnd (lstR (consR (R.ok (D.str (Str.ofString "a"))) (consR (R.ok (D.str (Str.ofString "b"))) (consR (R.ok (D.str (Str.ofString "ab"))) (consR (R.ok (D.str (Str.ofString "kind"))) (consR (R.ok (D.str (Str.ofString "addd"))) (consR (R.ok (D.str (Str.ofString "ad"))) (consR (R.ok (D.str (Str.ofString "rule"))) (consR (R.ok (D.str (Str.ofString "abcdefgh"))) (R.ok ([] : List D))))))))))) fun names =>
    (R.bnd (lstR (R.ok ([] : List D))) fun words =>
    (R.bnd (R.ok (D.int 1)) fun due =>
    (R.bnd (whileN (fun l_deck_words_due_1 => (tR (op2 fGt (R.ok l_deck_words_due_1.2.2) (R.ok (D.int 0))))) (fun l_deck_words_due_1 =>
    (bnd2 (callX p_law_next (consV (fun t2 => l_deck_words_due_1.1) (pR (R.ok ([] : List D))))) fun cell_3 t3 =>
    (R.bnd (op2 fSub (op2 fSub (R.ok most) (bltR gLen (consR (R.ok l_deck_words_due_1.2.1) (R.ok ([] : List D))))) (R.ok l_deck_words_due_1.2.2)) fun room_3 =>
    (R.bnd (op2 fDiv (R.ok cell_3) (R.ok (D.int 8))) fun rest__3 =>
    (R.bnd (op2 fSub (R.ok l_deck_words_due_1.2.2) (R.ok (D.int 1))) fun due_10 =>
    (iteR (andT (tR (op2 fLt (op2 fMod (R.ok cell_3) (R.ok (D.int 8))) (R.ok (D.int 4)))) (tR (op2 fGt (R.ok room_3) (R.ok (D.int 1)))))
    (bnd2 (appE l_deck_words_due_1.2.1 (immR (op2 ixD (lstR (consR (R.ok (D.str (Str.ofString "add"))) (consR (R.ok (D.str (Str.ofString "sub"))) (consR (R.ok (D.str (Str.ofString "mul"))) (consR (R.ok (D.str (Str.ofString "mul"))) (R.ok ([] : List D))))))) (op2 fMod (R.ok cell_3) (R.ok (D.int 8)))))) fun _ t4 =>
    (R.bnd (op2 fAdd (R.ok due_10) (R.ok (D.int 2))) fun due_11 =>
    (R.ok ((t3.2.getD 0 .non), t4, due_11))))
    (R.bnd (iteR (andT (tR (op2 fEq (op2 fMod (R.ok cell_3) (R.ok (D.int 8))) (R.ok (D.int 4)))) (tR (op2 fGt (R.ok room_3) (R.ok (D.int 0)))))
    (bnd2 (appE l_deck_words_due_1.2.1 (R.ok (D.str (Str.ofString "neg")))) fun _ t6 =>
    (R.bnd (op2 fAdd (R.ok due_10) (R.ok (D.int 1))) fun due_13 =>
    (R.ok (t6, due_13))))
    (R.bnd (iteR (tR (op2 fLt (op2 fMod (R.ok cell_3) (R.ok (D.int 8))) (R.ok (D.int 6))))
    (bnd2 (appE l_deck_words_due_1.2.1 (bltR gStr (consR (op2 ixD (lstR (consR (op2 fMod (R.ok rest__3) (R.ok (D.int 12))) (consR (op2 fMod (R.ok rest__3) (op2 fPow (R.ok (D.int 10)) (R.ok (D.int 60)))) (consR (negR (op2 fMod (R.ok rest__3) (op2 fPow (R.ok (D.int 10)) (R.ok (D.int 60))))) (R.ok ([] : List D)))))) (op2 fMod (R.ok rest__3) (R.ok (D.int 3)))) (R.ok ([] : List D))))) fun _ t8 =>
    (R.ok t8))
    (bnd2 (appE l_deck_words_due_1.2.1 (immR (op2 ixD (R.ok names) (op2 fMod (R.ok rest__3) (R.ok (D.int 8)))))) fun _ t9 =>
    (R.ok t9))) fun j_words_7 =>
    (R.ok (j_words_7, due_10)))) fun j_words_due_5 =>
    (R.ok ((t3.2.getD 0 .non), j_words_due_5.1, j_words_due_5.2))))))))) (deck, words, due)) fun e_deck_words_due_10 =>
    (R.ok (e_deck_words_due_10.2.1, [e_deck_words_due_10.1])))))))
theorem F_law_words : FRef G_law_words [true, false] p_law_words := fref2 fun deck most =>
    (tl_asgE (ef_lst (as_f ef_c (as_f ef_c (as_f ef_c (as_f ef_c (as_f ef_c (as_f ef_c (as_f ef_c (as_f ef_c as_nil)))))))) rfl) rfl rfl (fun names =>
    (tl_asgE (ef_lst as_nil rfl) rfl rfl (fun words =>
    (tl_asgE ef_c rfl rfl (fun due =>
    (tl_while (post := fun (t : D × D × D) => [.a t.1, .s most, .o names, .o t.2.1, .o t.2.2, .u, .u, .u]) (deck, words, due) (wkC pw_r (wkC pw_r (wkC pw_r (wkC pw_r (wkC pw_r (wkC pw_r (wkC pw_r (wkC pw_r wkN)))))))) (fun l_deck_words_due_1 => (et_s (ee (ef_op (ee_v rfl rfl) (ee ef_c))))) (fun l_deck_words_due_1 =>
    (tl_asg (xe_call F_law_next (eaX_v rfl rfl (eaX_p as_nil) (fun _ => rfl) (fun _ => rfl)) rfl (fun _ => rfl)) (fun _ => rfl) (fun _ => rfl) (fun cell_3 t3 =>
    (tl_asgE (ef_op (ee (ef_op (ee_v rfl rfl) (ee (ef_blt (al_cons (ee_v rfl rfl) al_nil))))) (ee_v rfl rfl)) rfl rfl (fun room_3 =>
    (tl_asgE (ef_op (ee_v rfl rfl) (ee ef_c)) rfl rfl (fun rest__3 =>
    (tl_asgE (ef_op (ee_v rfl rfl) (ee ef_c)) rfl rfl (fun due_10 =>
    (tl_last (tl_if (et_and (et_s (ee (ef_op (ee (ef_op (ee_v rfl rfl) (ee ef_c))) (ee ef_c)))) (et_s (ee (ef_op (ee_v rfl rfl) (ee ef_c)))))
    (tl_assoc (tl_drop (xe_app rfl rfl (ef_ix (ee (ef_lst (as_f ef_c (as_f ef_c (as_f ef_c (as_f ef_c as_nil)))) rfl)) (ee (ef_op (ee_v rfl rfl) (ee ef_c))))) (fun t4 =>
    (tl_asgE (ef_op (ee_v rfl rfl) (ee ef_c)) rfl rfl (fun due_11 =>
    (tl_endL (wkC pw_r (wkC pw_r (wkC pw_r (wkC pw_r (wkC pw_r (wkC pw_ou (wkC pw_ou (wkC pw_ou wkN))))))))))))))
    (tl_join (post := fun (t : D × D) => [.a (t3.2.getD 0 .non), .s most, .o names, .o t.1, .o t.2, .o cell_3, .o room_3, .o rest__3]) (tl_last (tl_if (et_and (et_s (ee (ef_op (ee (ef_op (ee_v rfl rfl) (ee ef_c))) (ee ef_c)))) (et_s (ee (ef_op (ee_v rfl rfl) (ee ef_c)))))
    (tl_assoc (tl_drop (xe_app rfl rfl ef_c) (fun t6 =>
    (tl_asgE (ef_op (ee_v rfl rfl) (ee ef_c)) rfl rfl (fun due_13 =>
    (tl_endJ (wkC pw_r (wkC pw_r (wkC pw_r (wkC pw_r (wkC pw_r (wkC pw_r (wkC pw_r (wkC pw_r wkN))))))))))))))
    (tl_join (post := fun (t : D) => [.a (t3.2.getD 0 .non), .s most, .o names, .o t, .o due_10, .o cell_3, .o room_3, .o rest__3]) (tl_last (tl_if (et_s (ee (ef_op (ee (ef_op (ee_v rfl rfl) (ee ef_c))) (ee ef_c))))
    (tl_drop (xe_app rfl rfl (ef_blt (al_cons (ee_ix (ee (ef_lst (as_f (ef_op (ee_v rfl rfl) (ee ef_c)) (as_f (ef_op (ee_v rfl rfl) (ee (ef_op (ee ef_c) (ee ef_c)))) (as_f (ef_neg (ee (ef_op (ee_v rfl rfl) (ee (ef_op (ee ef_c) (ee ef_c)))))) as_nil))) rfl)) (ee (ef_op (ee_v rfl rfl) (ee ef_c)))) al_nil))) (fun t8 =>
    (tl_endJ (wkC pw_r (wkC pw_r (wkC pw_r (wkC pw_r (wkC pw_r (wkC pw_r (wkC pw_r (wkC pw_r wkN)))))))))))
    (tl_drop (xe_app rfl rfl (ef_ix (ee_v rfl rfl) (ee (ef_op (ee_v rfl rfl) (ee ef_c))))) (fun t9 =>
    (tl_endJ (wkC pw_r (wkC pw_r (wkC pw_r (wkC pw_r (wkC pw_r (wkC pw_r (wkC pw_r (wkC pw_r wkN))))))))))))) (fun j_words_7 =>
    (tl_endJ (wkC pw_r (wkC pw_r (wkC pw_r (wkC pw_r (wkC pw_r (wkC pw_r (wkC pw_r (wkC pw_r wkN))))))))))))) (fun j_words_due_5 =>
    (tl_endL (wkC pw_r (wkC pw_r (wkC pw_r (wkC pw_r (wkC pw_r (wkC pw_ou (wkC pw_ou (wkC pw_ou wkN)))))))))))))))))))))) (fun e_deck_words_due_10 =>
    (tl_last (tl_retV rfl (xret_F rfl)))))))))))
abbrev G_law_odd : FS := noEx (fnOf 2 [false] (b_law_odd G_law_drawn))
/-- _law_odd(cell) -/
def p_law_odd : List D → R (D × List D) := noexF (ar1 fun cell =>
    (iteR (tR (op2 fEq (op2 fMod (R.ok cell) (R.ok (D.int 2))) (R.ok (D.int 1))))
    ((callP p_law_drawn (consR (op2 fDiv (R.ok cell) (R.ok (D.int 2))) (R.ok ([] : List D)))).bnd fun d => R.ok (d, []))
    (R.bnd (lstR (consR (R.ok (D.str (Str.ofString "-01"))) (consR (R.ok (D.str (Str.ofString "-00"))) (consR (R.ok (D.str (Str.ofString "00"))) (consR (R.ok (D.str (Str.ofString "-007"))) (R.ok ([] : List D))))))) fun some =>
    (R.bnd (lfR (op2 catD (R.ok some) (lstR (consR (R.ok (D.str (Str.ofString "any"))) (consR (R.ok (D.str (Str.ofString "var"))) (consR (R.ok (D.str (Str.ofString "put"))) (consR (R.ok (D.str (Str.ofString "load"))) (consR (R.ok (D.str (Str.ofString "out"))) (consR (R.ok (D.str (Str.ofString ""))) (consR (R.ok (D.str (Str.ofString "01"))) (consR (R.ok (D.str (Str.ofString "+1"))) (consR (R.ok (D.str (Str.ofString "-0"))) (consR (R.ok (D.str (Str.ofString "1_0"))) (consR (R.ok (D.str (Str.ofString "1.0"))) (consR (R.ok (D.str (Str.ofString "--1"))) (consR (R.ok (D.str (Str.ofString "-"))) (R.ok ([] : List D)))))))))))))))))) fun some_2 =>
    (R.bnd (lfR (op2 catD (R.ok some_2) (lstR (consR (R.ok (D.str (Str.ofString "A"))) (consR (R.ok (D.str (Str.ofString "aB"))) (consR (R.ok (D.str (Str.ofString "a1"))) (consR (R.ok (D.str (Str.ofString "a-b"))) (R.ok ([] : List D))))))))) fun some_3 =>
    (R.bnd (lfR (op2 catD (R.ok some_3) (lstR (consR (op2 fRepS (R.ok (D.str (Str.ofString "1"))) (R.ok (D.int 61))) (consR (op2 fCat (R.ok (D.str (Str.ofString "-"))) (op2 fRepS (R.ok (D.str (Str.ofString "9"))) (R.ok (D.int 61)))) (consR (R.ok (D.str (Str.ofString "abcdefghi"))) (consR (R.ok (D.str (Str.ofString "add1"))) (consR (R.ok (D.str (Str.ofString "Add"))) (consR (R.ok (D.str (Str.ofString "ADD"))) (consR (R.ok (D.str (Str.ofString "adds "))) (consR (R.ok (D.str (Str.ofString "neg\n"))) (consR (R.ok (D.str (Str.ofString "div"))) (consR (R.ok (D.str (Str.ofString "plus"))) (R.ok ([] : List D))))))))))))))) fun some_4 =>
    (R.bnd (lfR (op2 catD (R.ok some_4) (lstR (consR (R.ok (D.str (Str.ofString "("))) (consR (R.ok (D.str (Str.ofString "x y"))) (R.ok ([] : List D))))))) fun some_5 =>
    ((immR (op2 ixD (R.ok some_5) (op2 fMod (op2 fDiv (R.ok cell) (R.ok (D.int 2))) (bltR gLen (consR (R.ok some_5) (R.ok ([] : List D))))))).bnd fun d => R.ok (d, [])))))))))
theorem F_law_odd : FRef G_law_odd [false] p_law_odd := fref1 fun cell =>
    (tl_if (et_s (ee (ef_op (ee (ef_op (ee_v rfl rfl) (ee ef_c))) (ee ef_c))))
    (tl_ret (ef_call F_law_drawn (al_cons (ee (ef_op (ee_v rfl rfl) (ee ef_c))) al_nil)) (xret_F rfl))
    (tl_nilS (tl_asgE (ef_lst (as_f ef_c (as_f ef_c (as_f ef_c (as_f ef_c as_nil)))) rfl) rfl rfl (fun some =>
    (tl_asgE (ef_cat (ee_v rfl rfl) (ee (ef_lst (as_f ef_c (as_f ef_c (as_f ef_c (as_f ef_c (as_f ef_c (as_f ef_c (as_f ef_c (as_f ef_c (as_f ef_c (as_f ef_c (as_f ef_c (as_f ef_c (as_f ef_c as_nil))))))))))))) rfl))) rfl rfl (fun some_2 =>
    (tl_asgE (ef_cat (ee_v rfl rfl) (ee (ef_lst (as_f ef_c (as_f ef_c (as_f ef_c (as_f ef_c as_nil)))) rfl))) rfl rfl (fun some_3 =>
    (tl_asgE (ef_cat (ee_v rfl rfl) (ee (ef_lst (as_f (ef_op (ee ef_c) (ee ef_c)) (as_f (ef_op (ee ef_c) (ee (ef_op (ee ef_c) (ee ef_c)))) (as_f ef_c (as_f ef_c (as_f ef_c (as_f ef_c (as_f ef_c (as_f ef_c (as_f ef_c (as_f ef_c as_nil)))))))))) rfl))) rfl rfl (fun some_4 =>
    (tl_asgE (ef_cat (ee_v rfl rfl) (ee (ef_lst (as_f ef_c (as_f ef_c as_nil)) rfl))) rfl rfl (fun some_5 =>
    (tl_last (tl_ret (ef_ix (ee_v rfl rfl) (ee (ef_op (ee (ef_op (ee_v rfl rfl) (ee ef_c))) (ee (ef_blt (al_cons (ee_v rfl rfl) al_nil)))))) (xret_F rfl)))))))))))))))
abbrev G_law_good : FS := noEx (fnOf 3 [false] (b_law_good G_law_good_word))
/-- _law_good(text) -/
def p_law_good : List D → R (D × List D) := noexF (ar1 fun text =>
    (R.bnd (R.ok (D.int 1)) fun due =>
    (thenS ((itR itsD (op2 splitD (R.ok text) (R.ok (D.str (Str.ofString " "))))).bnd fun xs => forS (fun x l_due_1 => (R.ok x).bnd fun word_3 =>
    (iteR (orT (tR (op2 fLt (R.ok l_due_1) (R.ok (D.int 1)))) (notT (tR (callP p_law_good_word (consR (R.ok word_3) (R.ok ([] : List D)))))))
    ((R.ok (D.bl false)).bnd fun d => R.ok (Step.rt (d, [])))
    (iteR (tR (op2 (fIn false) (R.ok word_3) (lstR (consR (R.ok (D.str (Str.ofString "add"))) (consR (R.ok (D.str (Str.ofString "sub"))) (consR (R.ok (D.str (Str.ofString "mul"))) (R.ok ([] : List D))))))))
    (R.bnd (op2 fAdd (R.ok l_due_1) (R.ok (D.int 1))) fun due_8 =>
    (R.ok (Step.nx due_8)))
    (R.bnd (iteR (tR (op2 fNe (R.ok word_3) (R.ok (D.str (Str.ofString "neg")))))
    (R.bnd (op2 fSub (R.ok l_due_1) (R.ok (D.int 1))) fun due_10 =>
    (R.ok due_10))
    (R.ok l_due_1)) fun j_due_2 =>
    (R.ok (Step.nx j_due_2)))))) xs due) fun e_due_3 =>
    ((op2 fEq (R.ok e_due_3) (R.ok (D.int 0))).bnd fun d => R.ok (d, [])))))
theorem F_law_good : FRef G_law_good [false] p_law_good := fref1 fun text =>
    (tl_asgE ef_c rfl rfl (fun due =>
    (tl_forS (post := fun (t : D) => [.s text, .o t, .u]) due (eik (ei_it (ef_split (ee_v rfl rfl) (ee ef_c)))) rfl (wkC pw_r (wkC pw_r (wkC pw_r wkN))) (fun _ => (tg_n rfl rfl)) (fun word_3 l_due_1 =>
    (tl_if (et_or (et_s (ee (ef_op (ee_v rfl rfl) (ee ef_c)))) (et_not (et_s (ee (ef_call F_law_good_word (al_cons (ee_v rfl rfl) al_nil))))))
    (tl_ret ef_c (xret_S (xret_F rfl)))
    (tl_nilS (tl_last (tl_if (et_s (ee (ef_op (ee_v rfl rfl) (ee (ef_lst (as_f ef_c (as_f ef_c (as_f ef_c as_nil))) rfl)))))
    (tl_asgE (ef_op (ee_v rfl rfl) (ee ef_c)) rfl rfl (fun due_8 =>
    (tl_endS (wkC pw_r (wkC pw_r (wkC pw_su wkN))))))
    (tl_join (post := fun (t : D) => [.s text, .o t, .s word_3]) (tl_last (tl_if (et_s (ee (ef_op (ee_v rfl rfl) (ee ef_c))))
    (tl_asgE (ef_op (ee_v rfl rfl) (ee ef_c)) rfl rfl (fun due_10 =>
    (tl_endJ (wkC pw_r (wkC pw_r (wkC pw_r wkN))))))
    (tl_nilS (tl_endJ (wkC pw_r (wkC pw_r (wkC pw_r wkN))))))) (fun j_due_2 =>
    (tl_endS (wkC pw_r (wkC pw_r (wkC pw_su wkN))))))))))) (fun e_due_3 =>
    (tl_last (tl_ret (ef_op (ee_v rfl rfl) (ee ef_c)) (xret_F rfl)))))))
abbrev G_read_term : FS := (fnOf 3 [false] (b_read_term G_is_one G_word_of))
/-- read_term(text) -/
def p_read_term : List D → R (D × List D) := ar1 fun text =>
    (R.bnd (lcD (itR itsD (op2 splitD (R.ok text) (R.ok (D.str (Str.ofString " "))))) (fun d => (R.ok d).bnd fun word => (R.ok true)) (fun d => (R.ok d).bnd fun word => (callP p_word_of (consR (R.ok word) (R.ok ([] : List D)))))) fun words =>
    (iteR (orT (tR (op2 (fIn false) (R.ok D.non) (R.ok words))) (notT (tR (callP p_is_one (consR (R.ok words) (R.ok ([] : List D)))))))
    (R.ex ⟨"NoTerm", []⟩)
    ((lfR (un1 tupleD (R.ok words))).bnd fun d => R.ok (d, []))))
theorem F_read_term : FRef G_read_term [false] p_read_term := fref1X fun text =>
    (tl_asgE (ef_lc (eik (ei_it (ef_split (ee_v rfl rfl) (ee ef_c)))) (tg_n rfl rfl) (fun _ => et_yes) (fun _ => (ef_call F_word_of (al_cons (ee_v rfl rfl) al_nil)))) rfl rfl (fun words =>
    (tl_if (et_or (et_s (ee (ef_op (ee ef_c) (ee_v rfl rfl)))) (et_not (et_s (ee (ef_call F_is_one (al_cons (ee_v rfl rfl) al_nil))))))
    (tl_raise (fun _ _ => trivial) rfl)
    (tl_nilS (tl_last (tl_ret (ef_tuple (ee_v rfl rfl)) (xret_F rfl)))))))
abbrev G_law_spoiled : FS := noEx (fnOf 6 [false, false] (b_law_spoiled G_law_odd))
/-- _law_spoiled(words, cell) -/
def p_law_spoiled : List D → R (D × List D) := noexF (ar2 fun words cell =>
    (R.bnd (op2 fMod (R.ok cell) (R.ok (D.int 12))) fun way =>
    (R.bnd (op2 fDiv (R.ok cell) (R.ok (D.int 12))) fun rest_ =>
    (R.bnd (op2 fMod (R.ok rest_) (bltR gLen (consR (R.ok words) (R.ok ([] : List D))))) fun at_ =>
    (R.bnd (op2 fDiv (R.ok rest_) (bltR gLen (consR (R.ok words) (R.ok ([] : List D))))) fun more =>
    (iteR (tR (op2 fEq (R.ok way) (R.ok (D.int 0))))
    ((lfR (op2 catD (slR (R.ok words) (R.ok (none : Option Int)) (oSo (R.ok at_))) (slR (R.ok words) (oSo (op2 fAdd (R.ok at_) (R.ok (D.int 1)))) (R.ok (none : Option Int))))).bnd fun d => R.ok (d, []))
    (iteR (tR (op2 fEq (R.ok way) (R.ok (D.int 1))))
    ((lfR (op2 catD (op2 catD (slR (R.ok words) (R.ok (none : Option Int)) (oSo (R.ok at_))) (lstR (consR (immR (op2 ixD (R.ok words) (R.ok at_))) (R.ok ([] : List D))))) (slR (R.ok words) (oSo (R.ok at_)) (R.ok (none : Option Int))))).bnd fun d => R.ok (d, []))
    (iteR (tR (op2 fEq (R.ok way) (R.ok (D.int 2))))
    ((lfR (op2 catD (lstR (consR (immR (op2 ixD (lstR (consR (R.ok (D.str (Str.ofString "neg"))) (consR (R.ok (D.str (Str.ofString "add"))) (consR (R.ok (D.str (Str.ofString "1"))) (consR (R.ok (D.str (Str.ofString "a"))) (R.ok ([] : List D))))))) (op2 fMod (R.ok more) (R.ok (D.int 4))))) (R.ok ([] : List D)))) (R.ok words))).bnd fun d => R.ok (d, []))
    (iteR (tR (op2 fEq (R.ok way) (R.ok (D.int 3))))
    ((lfR (op2 catD (R.ok words) (lstR (consR (immR (op2 ixD (lstR (consR (R.ok (D.str (Str.ofString "neg"))) (consR (R.ok (D.str (Str.ofString "add"))) (consR (R.ok (D.str (Str.ofString "1"))) (consR (R.ok (D.str (Str.ofString "a"))) (R.ok ([] : List D))))))) (op2 fMod (R.ok more) (R.ok (D.int 4))))) (R.ok ([] : List D)))))).bnd fun d => R.ok (d, []))
    (iteR (tR (op2 fLt (R.ok way) (R.ok (D.int 7))))
    ((lfR (op2 catD (op2 catD (slR (R.ok words) (R.ok (none : Option Int)) (oSo (R.ok at_))) (lstR (consR (callP p_law_odd (consR (R.ok more) (R.ok ([] : List D)))) (R.ok ([] : List D))))) (slR (R.ok words) (oSo (op2 fAdd (R.ok at_) (R.ok (D.int 1)))) (R.ok (none : Option Int))))).bnd fun d => R.ok (d, []))
    (iteR (tR (op2 fEq (R.ok way) (R.ok (D.int 7))))
    ((lfR (op2 catD (op2 catD (slR (R.ok words) (R.ok (none : Option Int)) (oSo (R.ok at_))) (lstR (consR (immR (op2 ixD (lstR (consR (R.ok (D.str (Str.ofString "add"))) (consR (R.ok (D.str (Str.ofString "neg"))) (consR (R.ok (D.str (Str.ofString "7"))) (consR (R.ok (D.str (Str.ofString "b"))) (consR (R.ok (D.str (Str.ofString "mul"))) (R.ok ([] : List D)))))))) (op2 fMod (R.ok more) (R.ok (D.int 5))))) (R.ok ([] : List D))))) (slR (R.ok words) (oSo (op2 fAdd (R.ok at_) (R.ok (D.int 1)))) (R.ok (none : Option Int))))).bnd fun d => R.ok (d, []))
    (iteR (tR (op2 fEq (R.ok way) (R.ok (D.int 8))))
    ((lfR (op2 catD (slR (R.ok words) (oSo (R.ok at_)) (R.ok (none : Option Int))) (slR (R.ok words) (R.ok (none : Option Int)) (oSo (R.ok at_))))).bnd fun d => R.ok (d, []))
    (iteR (tR (op2 fEq (R.ok way) (R.ok (D.int 9))))
    ((lfR (op2 catD (op2 catD (slR (R.ok words) (R.ok (none : Option Int)) (oSo (R.ok at_))) (lstR (consR (R.ok (D.str (Str.ofString ""))) (R.ok ([] : List D))))) (slR (R.ok words) (oSo (R.ok at_)) (R.ok (none : Option Int))))).bnd fun d => R.ok (d, []))
    (iteR (tR (op2 fEq (R.ok way) (R.ok (D.int 10))))
    ((lfR (op2 catD (R.ok words) (lstR (consR (R.ok (D.str (Str.ofString ""))) (R.ok ([] : List D)))))).bnd fun d => R.ok (d, []))
    ((lstR (R.ok ([] : List D))).bnd fun d => R.ok (d, []))))))))))))))))
theorem F_law_spoiled : FRef G_law_spoiled [false, false] p_law_spoiled := fref2 fun words cell =>
    (tl_asgE (ef_op (ee_v rfl rfl) (ee ef_c)) rfl rfl (fun way =>
    (tl_asgE (ef_op (ee_v rfl rfl) (ee ef_c)) rfl rfl (fun rest_ =>
    (tl_asgE (ef_op (ee_v rfl rfl) (ee (ef_blt (al_cons (ee_v rfl rfl) al_nil)))) rfl rfl (fun at_ =>
    (tl_asgE (ef_op (ee_v rfl rfl) (ee (ef_blt (al_cons (ee_v rfl rfl) al_nil)))) rfl rfl (fun more =>
    (tl_if (et_s (ee (ef_op (ee_v rfl rfl) (ee ef_c))))
    (tl_ret (ef_cat (ee_sl (ee_v rfl rfl) eo_none (eo_s (ee_v rfl rfl))) (ee_sl (ee_v rfl rfl) (eo_s (ee (ef_op (ee_v rfl rfl) (ee ef_c)))) eo_none)) (xret_F rfl))
    (tl_nilS (tl_if (et_s (ee (ef_op (ee_v rfl rfl) (ee ef_c))))
    (tl_ret (ef_cat (ee_cat (ee_sl (ee_v rfl rfl) eo_none (eo_s (ee_v rfl rfl))) (ee (ef_lst (as_f (ef_ix (ee_v rfl rfl) (ee_v rfl rfl)) as_nil) rfl))) (ee_sl (ee_v rfl rfl) (eo_s (ee_v rfl rfl)) eo_none)) (xret_F rfl))
    (tl_nilS (tl_if (et_s (ee (ef_op (ee_v rfl rfl) (ee ef_c))))
    (tl_ret (ef_cat (ee (ef_lst (as_f (ef_ix (ee (ef_lst (as_f ef_c (as_f ef_c (as_f ef_c (as_f ef_c as_nil)))) rfl)) (ee (ef_op (ee_v rfl rfl) (ee ef_c)))) as_nil) rfl)) (ee_v rfl rfl)) (xret_F rfl))
    (tl_nilS (tl_if (et_s (ee (ef_op (ee_v rfl rfl) (ee ef_c))))
    (tl_ret (ef_cat (ee_v rfl rfl) (ee (ef_lst (as_f (ef_ix (ee (ef_lst (as_f ef_c (as_f ef_c (as_f ef_c (as_f ef_c as_nil)))) rfl)) (ee (ef_op (ee_v rfl rfl) (ee ef_c)))) as_nil) rfl))) (xret_F rfl))
    (tl_nilS (tl_if (et_s (ee (ef_op (ee_v rfl rfl) (ee ef_c))))
    (tl_ret (ef_cat (ee_cat (ee_sl (ee_v rfl rfl) eo_none (eo_s (ee_v rfl rfl))) (ee (ef_lst (as_f (ef_call F_law_odd (al_cons (ee_v rfl rfl) al_nil)) as_nil) rfl))) (ee_sl (ee_v rfl rfl) (eo_s (ee (ef_op (ee_v rfl rfl) (ee ef_c)))) eo_none)) (xret_F rfl))
    (tl_nilS (tl_if (et_s (ee (ef_op (ee_v rfl rfl) (ee ef_c))))
    (tl_ret (ef_cat (ee_cat (ee_sl (ee_v rfl rfl) eo_none (eo_s (ee_v rfl rfl))) (ee (ef_lst (as_f (ef_ix (ee (ef_lst (as_f ef_c (as_f ef_c (as_f ef_c (as_f ef_c (as_f ef_c as_nil))))) rfl)) (ee (ef_op (ee_v rfl rfl) (ee ef_c)))) as_nil) rfl))) (ee_sl (ee_v rfl rfl) (eo_s (ee (ef_op (ee_v rfl rfl) (ee ef_c)))) eo_none)) (xret_F rfl))
    (tl_nilS (tl_if (et_s (ee (ef_op (ee_v rfl rfl) (ee ef_c))))
    (tl_ret (ef_cat (ee_sl (ee_v rfl rfl) (eo_s (ee_v rfl rfl)) eo_none) (ee_sl (ee_v rfl rfl) eo_none (eo_s (ee_v rfl rfl)))) (xret_F rfl))
    (tl_nilS (tl_if (et_s (ee (ef_op (ee_v rfl rfl) (ee ef_c))))
    (tl_ret (ef_cat (ee_cat (ee_sl (ee_v rfl rfl) eo_none (eo_s (ee_v rfl rfl))) (ee (ef_lst (as_f ef_c as_nil) rfl))) (ee_sl (ee_v rfl rfl) (eo_s (ee_v rfl rfl)) eo_none)) (xret_F rfl))
    (tl_nilS (tl_if (et_s (ee (ef_op (ee_v rfl rfl) (ee ef_c))))
    (tl_ret (ef_cat (ee_v rfl rfl) (ee (ef_lst (as_f ef_c as_nil) rfl))) (xret_F rfl))
    (tl_nilS (tl_last (tl_ret (ef_lst as_nil rfl) (xret_F rfl)))))))))))))))))))))))))))))
abbrev G_law_right : FS := noEx (fnOf 4 [false] (b_law_right G_law_good G_read_term))
/-- _law_right(text) -/
def p_law_right : List D → R (D × List D) := noexF (ar1 fun text =>
    (R.bnd (R.ok D.non) fun found =>
    (R.bnd (R.ok D.non) fun caught =>
    (R.bnd (tryJ exNames (bnd2 (callR p_read_term (consR (R.ok text) (R.ok ([] : List D)))) fun found_3 t1 =>
    (R.ok (found_3, caught))) (fun e3 => (found, e3))) fun y_found_caught_2 =>
    (iteR (tR (callP p_law_good (consR (R.ok text) (R.ok ([] : List D)))))
    ((andR (op2 (fIs false) (R.ok y_found_caught_2.2) (R.ok D.non)) (andR (un1 (isiD .tuple) (R.ok y_found_caught_2.1)) (op2 fEq (bltR gLen (consR (R.ok y_found_caught_2.1) (R.ok ([] : List D)))) (bltR gLen (consR (op2 splitD (R.ok text) (R.ok (D.str (Str.ofString " ")))) (R.ok ([] : List D))))))).bnd fun d => R.ok (d, []))
    (iteR (tR (un1 (isXD supC exNames ["BadCover", "BadDeed", "BadRow", "BadShape", "NoBox", "NoCover", "NoName", "NoValue", "Twice", "Unsound"]) (R.ok y_found_caught_2.2)))
    ((R.ok (D.bl false)).bnd fun d => R.ok (d, []))
    ((andR (un1 (isXD supC exNames ["NoTerm"]) (R.ok y_found_caught_2.2)) (un1 (isVE exNames) (R.ok y_found_caught_2.2))).bnd fun d => R.ok (d, []))))))))
theorem F_law_right : FRef G_law_right [false] p_law_right := fref1 fun text =>
    (tl_asgE ef_c rfl rfl (fun found =>
    (tl_asgE ef_c rfl rfl (fun caught =>
    (tl_try (post := fun (t : D × D) => [.s text, .o t.1, .o t.2, .u]) (tl_last (tl_asg (xe_callR F_read_term (al_cons (ee_v rfl rfl) al_nil) (fun _ e => e) ar1_bad) (fun _ => rfl) (fun _ => rfl) (fun found_3 t1 =>
    (tl_endJ (wkC pw_r (wkC pw_r (wkC pw_r (wkC pw_r wkN)))))))) (by decide) rfl rfl rfl rfl (fun e3 => (wkC pw_r (wkC pw_r (wkC pw_r (wkC pw_r wkN))))) (fun y_found_caught_2 =>
    (tl_if (et_s (ee (ef_call F_law_good (al_cons (ee_v rfl rfl) al_nil))))
    (tl_ret (ef_and (ee (ef_op (ee_v rfl rfl) (ee ef_c))) (ef_and (ee (ef_isi (ee_v rfl rfl))) (ef_op (ee (ef_blt (al_cons (ee_v rfl rfl) al_nil))) (ee (ef_blt (al_cons (ee (ef_split (ee_v rfl rfl) (ee ef_c))) al_nil)))))) (xret_F rfl))
    (tl_nilS (tl_if (et_s (ee (ef_s1 (ee_v rfl rfl))))
    (tl_ret ef_c (xret_F rfl))
    (tl_nilS (tl_last (tl_ret (ef_and (ee (ef_s1 (ee_v rfl rfl))) (ef_s1 (ee_v rfl rfl))) (xret_F rfl)))))))))))))
abbrev G_law : FS := noEx (fnOf 6 [false] (b_law G_law_right G_law_spoiled G_law_next G_law_words))
/-- law(script) -/
def p_law : List D → R (D × List D) := noexF (ar1 fun script =>
    (R.bnd (lstR (consR (lfR (un1 listD (slR (R.ok script) (R.ok (none : Option Int)) (oSo (R.ok (D.int 60)))))) (consR (R.ok (D.int 0)) (R.ok ([] : List D))))) fun deck =>
    (bnd2 (callX p_law_words (consV (fun t5 => (t5.1.2.1.2.getD 0 .non)) (consX (opX fAdd (pR (R.ok (D.int 1))) (fun t1 => (opX fMod (callX p_law_next (consV (fun t2 => deck) (pR (R.ok ([] : List D))))) (fun t3 => (pR (R.ok (D.int 40))))))) (fun t4 => (pR (R.ok ([] : List D))))))) fun words t6 =>
    (iteR (notT (tR (callP p_law_right (consR (op2 joinD (R.ok (D.str (Str.ofString " "))) (R.ok words)) (R.ok ([] : List D))))))
    ((R.ok (D.bl false)).bnd fun d => R.ok (d, []))
    (thenS ((itA rngR (consR (R.ok (D.int 8)) (R.ok ([] : List D)))).bnd fun xs => forS (fun x l_deck_7 => (R.ok x).bnd fun k_3 =>
    (bnd2 (callX p_law_next (consV (fun t8 => l_deck_7) (pR (R.ok ([] : List D))))) fun cell_3 t9 =>
    (R.bnd (callP p_law_spoiled (consR (R.ok words) (consR (R.ok cell_3) (R.ok ([] : List D))))) fun spoiled_3 =>
    (iteR (orT (notT (tR (callP p_law_right (consR (op2 joinD (R.ok (D.str (Str.ofString " "))) (R.ok spoiled_3)) (R.ok ([] : List D)))))) (notT (tR (callP p_law_right (consR (op2 joinD (R.ok (D.str (Str.ofString " "))) (R.ok words)) (R.ok ([] : List D)))))))
    ((R.ok (D.bl false)).bnd fun d => R.ok (Step.rt (d, [])))
    (iteR (notT (tR (callP p_law_right (consR (op2 (jrepD " " " " "\n") (R.ok words) (op2 fAdd (R.ok (D.int 1)) (op2 fMod (R.ok cell_3) (R.ok (D.int 3))))) (R.ok ([] : List D))))))
    ((R.ok (D.bl false)).bnd fun d => R.ok (Step.rt (d, [])))
    (iteR (orT (notT (tR (callP p_law_right (consR (op2 fCat (R.ok (D.str (Str.ofString " "))) (op2 joinD (R.ok (D.str (Str.ofString " "))) (R.ok words))) (R.ok ([] : List D)))))) (notT (tR (callP p_law_right (consR (op2 joinD (R.ok (D.str (Str.ofString " "))) (op2 catD (callP p_law_spoiled (consR (R.ok words) (consR (op2 fDiv (R.ok cell_3) (R.ok (D.int 7))) (R.ok ([] : List D))))) (R.ok words))) (R.ok ([] : List D)))))))
    ((R.ok (D.bl false)).bnd fun d => R.ok (Step.rt (d, [])))
    (R.ok (Step.nx (t9.2.getD 0 .non))))))))) xs (t6.2.getD 0 .non)) fun e_deck_10 =>
    ((andR (callP p_law_right (consR (R.ok (D.str (Str.ofString ""))) (R.ok ([] : List D)))) (andR (callP p_law_right (consR (R.ok (D.str (Str.ofString " "))) (R.ok ([] : List D)))) (andR (callP p_law_right (consR (R.ok (D.str (Str.ofString "neg"))) (R.ok ([] : List D)))) (callP p_law_right (consR (R.ok (D.str (Str.ofString "add 1"))) (R.ok ([] : List D))))))).bnd fun d => R.ok (d, [])))))))
theorem F_law : FRef G_law [false] p_law := fref1 fun script =>
    (tl_asgE (ef_lst (as_f (ef_list (ee_sl (ee_v rfl rfl) eo_none (eo_s (ee ef_c)))) (as_f ef_c as_nil)) rfl) rfl rfl (fun deck =>
    (tl_asg (xe_call F_law_words (eaX_v rfl rfl (eaX_c (xe_opX (xe_p ef_c) (fun _ => (xe_opX (xe_call F_law_next (eaX_v rfl rfl (eaX_p as_nil) (fun _ => rfl) (fun _ => rfl)) rfl (fun _ => rfl)) (fun _ => (xe_p ef_c))))) (fun _ => (eaX_p as_nil))) (fun _ => rfl) (fun _ => rfl)) rfl (fun _ => rfl)) (fun _ => rfl) (fun _ => rfl) (fun words t6 =>
    (tl_if (et_not (et_s (ee (ef_call F_law_right (al_cons (ee (ef_join (ee ef_c) (ee_v rfl rfl))) al_nil)))))
    (tl_ret ef_c (xret_F rfl))
    (tl_nilS (tl_forS (post := fun (t : D) => [.s script, .o t, .o words, .u, .u, .u]) (t6.2.getD 0 .non) (eik (ei_rng (al_cons (ee ef_c) al_nil))) rfl (wkC pw_r (wkC pw_r (wkC pw_r (wkC pw_r (wkC pw_r (wkC pw_r wkN)))))) (fun _ => (tg_n rfl rfl)) (fun k_3 l_deck_7 =>
    (tl_asg (xe_call F_law_next (eaX_v rfl rfl (eaX_p as_nil) (fun _ => rfl) (fun _ => rfl)) rfl (fun _ => rfl)) (fun _ => rfl) (fun _ => rfl) (fun cell_3 t9 =>
    (tl_asgE (ef_call F_law_spoiled (al_cons (ee_v rfl rfl) (al_cons (ee_v rfl rfl) al_nil))) rfl rfl (fun spoiled_3 =>
    (tl_if (et_or (et_not (et_s (ee (ef_call F_law_right (al_cons (ee (ef_join (ee ef_c) (ee_v rfl rfl))) al_nil))))) (et_not (et_s (ee (ef_call F_law_right (al_cons (ee (ef_join (ee ef_c) (ee_v rfl rfl))) al_nil))))))
    (tl_ret ef_c (xret_S (xret_F rfl)))
    (tl_nilS (tl_if (et_not (et_s (ee (ef_call F_law_right (al_cons (ee (ef_jrep (ee_v rfl rfl) (ee (ef_op (ee ef_c) (ee (ef_op (ee_v rfl rfl) (ee ef_c))))))) al_nil)))))
    (tl_ret ef_c (xret_S (xret_F rfl)))
    (tl_nilS (tl_last (tl_if (et_or (et_not (et_s (ee (ef_call F_law_right (al_cons (ee (ef_op (ee ef_c) (ee (ef_join (ee ef_c) (ee_v rfl rfl))))) al_nil))))) (et_not (et_s (ee (ef_call F_law_right (al_cons (ee (ef_join (ee ef_c) (ee_cat (ee (ef_call F_law_spoiled (al_cons (ee_v rfl rfl) (al_cons (ee (ef_op (ee_v rfl rfl) (ee ef_c))) al_nil)))) (ee_v rfl rfl)))) al_nil))))))
    (tl_ret ef_c (xret_S (xret_F rfl)))
    (tl_nilS (tl_endS (wkC pw_r (wkC pw_r (wkC pw_r (wkC pw_su (wkC pw_ou (wkC pw_ou wkN))))))))))))))))))) (fun e_deck_10 =>
    (tl_last (tl_ret (ef_and (ee (ef_call F_law_right (al_cons (ee ef_c) al_nil))) (ef_and (ee (ef_call F_law_right (al_cons (ee ef_c) al_nil))) (ef_and (ee (ef_call F_law_right (al_cons (ee ef_c) al_nil))) (ef_call F_law_right (al_cons (ee ef_c) al_nil))))) (xret_F rfl)))))))))))
/-! reckoning with the plain functions -/
local macro_rules | `(tactic| walk_at "d") => `(tactic| first | assumption | exact imm_int | exact imm_str | exact imm_bl | omega | (apply id; simp only [List.length_cons, List.length_nil, List.length_map, List.length_append, List.length_set, List.length_replicate]; omega) | (apply id; simp only [imm_int, imm_str, imm_bl, imm_non, imm_tup, imm_rol, imms_nil, imms_cons, imms_app, imms_ints, imms_strs, items_lst, items_tup, items_rol, items_str, Bool.and_true, Bool.true_and, Bool.and_self, *]; done) | (apply imms_getD; first | assumption | (simp only [imm_int, imm_str, imm_bl, imm_non, imm_tup, imm_rol, imms_nil, imms_cons, imms_app, imms_ints, imms_strs, Bool.and_true, Bool.true_and, Bool.and_self, *]; done)))
local macro_rules | `(tactic| walk_at "fl") => `(tactic| simp (disch := walk_at "d") only [bnd_ok, bnd2_ok, noex_ok, of_some, sat_ok, sat_bnd, sat_bnd2, sat_noex, sat_lstX, sat_tupX, sat_consX, sat_consV, sat_callX, sat_callP, opX_sat, sat_opV, sat_ixV, sat_bltX, sat_appX, sat_appE, sat_pR, sat_iteR, isLst_ok, appR_ok, iteR_ok, ifX_ok, op2_ok, consR_ok, lstR_ok, tupR_ok, tR_ok, notT_ok, andT_ok, orT_ok, andR_ok, orR_ok, notR_ok, negR_ok, oSo_ok, slR_ok, un1_ok, bltR_ok, pR_ok, immR_ok, immG_ok, lfR_ok, callP_ok, callX_ok, consV_ok, consVI_ok, lstX_ok, tupX_ok, consX_ok, opX_ok, opV_ok, ixV_ok, bltX_ok, appE_ok, appX_ok, popR_app, augR_ok, setR_ok, vAdd, vSub, vMul, vDiv, vMod, v1060, vLt, vLe, vGt, vGe, vEqI, vNeI, vEqS, vNeS, vEqB, vNeB, vEqIS, vEqSI, vNeIS, vNeSI, vCat, vLenL, vLenT, vLenR, vLenS, vIntB, vIntI, vIxL, vIxT, vIxR, vCatL, vCatT, vTupL, vTupT, vLstL, vLstT, vLstR, vSlL, vSlR, vSlT, vSlS, vItL, vItsL, vItsR, vItT, vItS, vRng, vRng2, vLstRg1, vLstRg2, vRevRg1, vRevL, vRevT, vRevLL, noexF_eq, ar1_eq, ar2_eq, ar3_eq, ar4_eq, ar5_eq, vGetI', vGetS', vGet2I, vGet2S, vInI, vInS, vLenDI, vLenDS, vDictI, vDictS, vKeysI, vKeysS, vIsiDI, vIsiDS, vals_dI, vals_dS, op3_ok, vPutI, vPutS, tpTup2, tpTup3, tpTup4, tpTup5, immG_ok, tpCons_ok, tpNil_ok, vItEnum, negX_ok, vAddDI, Option.map_some, Bool.or_false, Bool.false_or, Bool.or_true, Bool.true_or, Bool.and_false, Bool.false_and, Bool.not_true, Bool.not_false, Bool.false_eq_true, if_true, if_false, List.getD_cons_zero, List.getD_cons_succ, List.set_cons_zero, List.set_cons_succ, Int.toNat_zero, Int.reduceToNat])
local macro_rules | `(tactic| walk_at "fp") => `(tactic| simp (disch := walk_at "d") only [bnd_ok, bnd2_ok, noex_ok, of_some, sat_ok, sat_bnd, sat_bnd2, sat_noex, sat_lstX, sat_tupX, sat_consX, sat_consV, sat_callX, sat_callP, opX_sat, sat_opV, sat_ixV, sat_bltX, sat_appX, sat_appE, sat_pR, sat_iteR, sat_consR, sat_op2, sat_op3, sat_un1, sat_bltR, sat_notT, sat_andT, sat_orT, tC_ok, sat_tR, immC_ok, sat_immR, lfC_ok, sat_lfR, dvC_ok, sat_dvR, lstC_ok, sat_lstR, tupC_ok, sat_tupR, blC_ok, sat_andR, sat_orR, isLst_ok, appR_ok, iteR_ok, ifX_ok, op2_ok, consR_ok, lstR_ok, tupR_ok, tR_ok, notT_ok, andT_ok, orT_ok, andR_ok, orR_ok, notR_ok, negR_ok, oSo_ok, slR_ok, un1_ok, bltR_ok, pR_ok, immR_ok, immG_ok, lfR_ok, callP_ok, callX_ok, consV_ok, consVI_ok, lstX_ok, tupX_ok, consX_ok, opX_ok, opV_ok, ixV_ok, bltX_ok, appE_ok, appX_ok, popR_app, augR_ok, setR_ok, vAdd, vSub, vMul, vDiv, vMod, v1060, vLt, vLe, vGt, vGe, vEqI, vNeI, vEqS, vNeS, vEqB, vNeB, vEqIS, vEqSI, vNeIS, vNeSI, vCat, vLenL, vLenT, vLenR, vLenS, vIntB, vIntI, vIxL, vIxT, vIxR, vCatL, vCatT, vTupL, vTupT, vLstL, vLstT, vLstR, vSlL, vSlR, vSlT, vSlS, vItL, vItsL, vItsR, vItT, vItS, vRng, vRng2, vLstRg1, vLstRg2, vRevRg1, vRevL, vRevT, vRevLL, noexF_eq, ar1_eq, ar2_eq, ar3_eq, ar4_eq, ar5_eq, vGetI', vGetS', vGet2I, vGet2S, vInI, vInS, vLenDI, vLenDS, vDictI, vDictS, vKeysI, vKeysS, vIsiDI, vIsiDS, vals_dI, vals_dS, op3_ok, vPutI, vPutS, tpTup2, tpTup3, tpTup4, tpTup5, immG_ok, tpCons_ok, tpNil_ok, vItEnum, negX_ok, vAddDI, Option.map_some, Bool.or_false, Bool.false_or, Bool.or_true, Bool.true_or, Bool.and_false, Bool.false_and, Bool.not_true, Bool.not_false, Bool.false_eq_true, if_true, if_false, List.getD_cons_zero, List.getD_cons_succ, List.set_cons_zero, List.set_cons_succ, Int.toNat_zero, Int.reduceToNat])
local macro_rules | `(tactic| walk_at "fl?") => `(tactic| try walk_at "fl")
local macro_rules | `(tactic| walk_at "fp?") => `(tactic| try walk_at "fp")
local macro_rules | `(tactic| walk_at "tr") => `(tactic| try simp only [okP_iff, okP_false, Bool.and_eq_true, Bool.or_eq_true, Bool.not_eq_true', Bool.and_eq_false_iff, Bool.or_eq_false_iff, Bool.not_eq_false', Bool.not_eq_true] at *)
theorem getD_mem {l : List D} {a : Nat} (h : a < l.length) : l.getD a .non ∈ l := by
  rw [List.getD_eq_getElem?_getD, List.getElem?_eq_getElem h]
  exact List.getElem_mem h
theorem getD_all {P : D → Prop} {l : List D} (h : ∀ x ∈ l, P x) {n : Nat} (hn : n < l.length) : P (l.getD n .non) := h _ (getD_mem hn)
/-! words, terms -/
def Sc (d : D) : Prop := (∃ i, d = .int i) ∨ ∃ x, d = .str x
def scV : D → V
  | .int i => .int i
  | .str x => .str x
  | _ => .non
def opsV : List V := [V.str (Str.ofString "add"), V.str (Str.ofString "sub"), V.str (Str.ofString "mul")]
def opsD : List D := [D.str (Str.ofString "add"), D.str (Str.ofString "sub"), D.str (Str.ofString "mul")]
def isOp (d : D) : Bool := inV (scV d) opsV
def isNg (d : D) : Bool := okP (d = .str (Str.ofString "neg"))
def want (d : D) : Nat := if isOp d = true then 2 else if isNg d = true then 1 else 0
theorem sc_imm {d : D} (h : Sc d) : d.imm = true := by rcases h with ⟨i, rfl⟩ | ⟨x, rfl⟩ <;> rfl
theorem in_ops {d : D} (h : Sc d) : fIn false d (.lst opsD) = some (.bl (isOp d)) := by rcases h with ⟨i, rfl⟩ | ⟨x, rfl⟩ <;> rfl
theorem in_opsT {d : D} (h : Sc d) : fIn false d (.tup opsD) = some (.bl (isOp d)) := by rcases h with ⟨i, rfl⟩ | ⟨x, rfl⟩ <;> rfl
theorem eq_neg {d : D} (h : Sc d) : fEq d (.str (Str.ofString "neg")) = some (.bl (isNg d)) := by
  unfold isNg
  rcases h with ⟨i, rfl⟩ | ⟨x, rfl⟩
  · rw [vEqIS, okF (by intro e; cases e)]
  · rw [vEqS]
    congr 2
    by_cases e : x = Str.ofString "neg"
    · rw [okT e, okT (by rw [e])]
    · rw [okF e, okF (fun h => e (by cases h; rfl))]
theorem wanted_ok {d : D} (h : Sc d) : p_wanted_by [d] = R.ok (.int (want d), []) := by
  unfold p_wanted_by
  have e1 : fIn false d k_PAIRS = some (.bl (isOp d)) := in_opsT h
  simp only [noexF_eq, ar1_eq, op2_ok, e1, of_some, tR_ok, iteR_ok, eq_neg h, bnd_ok]
  unfold want
  cases isOp d <;> cases isNg d <;> rfl
theorem want_int {i : Int} : want (.int i) = 0 := by
  unfold want
  have e1 : isOp (.int i) = false := rfl
  have e2 : isNg (.int i) = false := okF (by intro e; cases e)
  rw [e1, e2]
  rfl
/-! words as texts -/
def kwV : List V := ["add", "sub", "mul", "neg", "any", "var", "put", "load", "out"].map fun s => V.str (Str.ofString s)
def LT : Str := Str.ofString "abcdefghijklmnopqrstuvwxyz"
def FG : Str := Str.ofString "0123456789"
theorem okD {p : Prop} [Decidable p] : okP p = decide p := by
  by_cases h : p
  · rw [okT h, decide_eq_true h]
  · rw [okF h, decide_eq_false h]
theorem bls_map (f : Nat → Bool) : ∀ l : List Nat, bls (l.map fun c => D.bl (f c)) = some (l.map f)
  | [] => rfl
  | c :: l => by rw [List.map_cons, bls, bls_map f l]; rfl
theorem all_signs {x z : Str} {ft : D → R Bool} {fe : D → R D} (hl : x.length ≤ 1000000) (ht : ∀ d, ft d = R.ok true) (he : ∀ d, fe d = R.of (fInS false d (.str z))) : bltR gAll (consR (lcD (itR itSD (R.ok (.str x))) ft fe) (R.ok ([] : List D))) = R.ok (.bl (x.cps.toList.all fun c => decide (c ∈ z.cps.toList))) := by
  have h1 : lcR ft fe (signsD x) = R.ok (x.cps.toList.map fun c => D.bl (decide (c ∈ z.cps.toList))) := by
    unfold signsD
    refine lcR_map (fun c => D.str ⟨#[c]⟩) (fun c => D.bl (decide (c ∈ z.cps.toList))) _ fun c _ => ⟨ht _, ?_⟩
    rw [he]
    have : fInS false (.str ⟨#[c]⟩) (.str z) = some (.bl (okP (c ∈ z.cps.toList))) := rfl
    rw [this, okD]
    rfl
  have hlen : (signsD x).length ≤ 16777216 := by
    unfold signsD
    rw [List.length_map]
    have : x.cps.toList.length = x.length := by simp [Str.length]
    omega
  rw [vItS, lcD_ok h1 hlen, consR_ok]
  show R.of (gAll [.lst (x.cps.toList.map fun c => D.bl (decide (c ∈ z.cps.toList)))]) = _
  unfold gAll
  simp only [bls_map (fun c => decide (c ∈ z.cps.toList))]
  rw [List.all_map]
  rfl
def nameC (x : Str) : Bool := !(inV (.str x) kwV || (decide ((x.length : Int) < 1) || decide ((x.length : Int) > 8))) && x.cps.toList.all fun c => decide (c ∈ LT.cps.toList)
theorem is_name_ok {x : Str} (hx : x.length ≤ 1000000) : p_is_name [.str x] = R.ok (.bl (nameC x), []) := by
  have e1 : fIn false (.str x) k_KEPT = some (.bl (inV (.str x) kwV)) := rfl
  have ha := all_signs (x := x) (z := LT) (ft := fun d => (R.ok d).bnd fun sign => (R.ok true)) (fe := fun d => (R.ok d).bnd fun sign => (op2 (fInS false) (R.ok sign) (R.ok k_LETTERS))) (by omega) (fun _ => rfl) (fun _ => rfl)
  unfold p_is_name
  rw [noexF_eq, ar1_eq, ha]
  simp only [op2_ok, e1, of_some, tR_ok]
  walk_at "fl"
  unfold nameC
  rw [okD, okD]
  cases inV (.str x) kwV <;> cases decide ((x.length : Int) < 1) <;> cases h : decide (8 < (x.length : Int)) <;> simp_all <;> rfl
def figs (x : Str) : Str := if cutS x none (some 1) = Str.ofString "-" then cutS x (some 1) none else x
def numC (x : Str) : Bool := !(decide (((figs x).length : Int) < 1) || decide (((figs x).length : Int) > 60)) && ((figs x).cps.toList.all (fun c => decide (c ∈ FG.cps.toList)) && (!decide ((⟨#[(figs x).cps.toList.getD 0 0]⟩ : Str) = Str.ofString "0") || decide (x = Str.ofString "0")))
theorem is_number_ok {x : Str} (hx : x.length ≤ 1000000) : p_is_number [.str x] = R.ok (.bl (numC x), []) := by
  have hf : (figs x).length ≤ 1000000 := by
    unfold figs
    split
    · exact Nat.le_trans (len_cut _ _ _) hx
    · exact hx
  have ha := all_signs (x := figs x) (z := FG) (ft := fun d => (R.ok d).bnd fun sign => (R.ok true)) (fe := fun d => (R.ok d).bnd fun sign => (op2 (fInS false) (R.ok sign) (R.ok (D.str (Str.ofString "0123456789"))))) (by omega) (fun _ => rfl) (fun _ => rfl)
  unfold p_is_number
  have e0 : (R.bnd (iteR (tR (op2 fEq (slR (R.ok (.str x)) (R.ok (none : Option Int)) (oSo (R.ok (D.int 1)))) (R.ok (D.str (Str.ofString "-")))))
    (R.bnd (lfR (slR (R.ok (.str x)) (oSo (R.ok (D.int 1))) (R.ok (none : Option Int)))) fun figures_3 =>
    (R.ok figures_3))
    (R.ok (.str x))) fun z => R.ok z) = R.ok (.str (figs x)) := by
    walk_at "fl"
    unfold figs
    rw [okD]
    by_cases h : cutS x none (some 1) = Str.ofString "-"
    · rw [decide_eq_true h, if_pos rfl, if_pos h]; rfl
    · rw [decide_eq_false h, if_neg (by decide), if_neg h]; rfl
  rw [noexF_eq, ar1_eq, immR_ok (d := .str x) rfl, bnd_ok]
  have key : ∀ (m : R D) (k : D → R (D × List D)) (y : D), (R.bnd m fun z => R.ok z) = R.ok y → m.bnd k = k y := fun m k y h => by
    cases m with
    | ok z => rw [bnd_ok] at h; cases h; rfl
    | ex x => cases h
    | bad => cases h
  rw [key _ _ _ e0, ha]
  walk_at "fl"
  unfold numC
  rw [okD, okD]
  by_cases h1 : ((figs x).length : Int) < 1
  · rw [decide_eq_true h1]; rfl
  · by_cases h2 : 60 < ((figs x).length : Int)
    · rw [decide_eq_false h1, decide_eq_true h2]; rfl
    · rw [decide_eq_false h1, decide_eq_false h2]
      cases h3 : (figs x).cps.toList.all (fun c => decide (c ∈ FG.cps.toList))
      · rfl
      · walk_at "fl"
        rw [vIxS (by omega) (by omega) (by omega)]
        walk_at "fl"
        rw [okD]
        by_cases h4 : (⟨#[(figs x).cps.toList.getD 0 0]⟩ : Str) = Str.ofString "0" <;> by_cases h5 : x = Str.ofString "0" <;> simp_all [okD] <;> rfl
/-! which texts are words -/
theorem filter_len (f : Nat → Bool) : ∀ l : List Nat, ((l.filter f).length = l.length) = (l.all f = true)
  | [] => by simp
  | a :: l => by
    have ih := filter_len f l
    have hle := List.length_filter_le f l
    cases h : f a
    · rw [List.filter_cons_of_neg (by rw [h]; decide), List.all_cons, h, Bool.false_and, List.length_cons]
      simp
      omega
    · rw [List.filter_cons_of_pos h, List.all_cons, h, Bool.true_and, List.length_cons, List.length_cons, ← ih]
      simp
theorem signs_in {x z : Str} {ft : D → R Bool} {fe : D → R D} (hl : x.length ≤ 1000000) (ht : ∀ d, ft d = tR (R.of (fInS false d (.str z)))) (he : ∀ d : D, d.imm = true → fe d = R.ok d) :
    lcD (itR itSD (R.ok (.str x))) ft fe = R.ok (.lst ((x.cps.toList.filter fun c => decide (c ∈ z.cps.toList)).map fun c => D.str ⟨#[c]⟩)) := by
  have hlen : (signsD x).length ≤ 16777216 := by
    unfold signsD
    rw [List.length_map]
    have : x.cps.toList.length = x.length := by simp [Str.length]
    omega
  rw [vItS]
  refine lcD_ok ?_ hlen
  unfold signsD
  refine lcR_filter (fun c => D.str ⟨#[c]⟩) (fun c => D.str ⟨#[c]⟩) (fun c => decide (c ∈ z.cps.toList)) _ fun c _ => ⟨?_, fun _ => he _ rfl⟩
  rw [ht]
  have : fInS false (.str ⟨#[c]⟩) (.str z) = some (.bl (okP (c ∈ z.cps.toList))) := rfl
  rw [this, okD]
  rfl
def KW4 : List Str := [Str.ofString "add", Str.ofString "sub", Str.ofString "mul", Str.ofString "neg"]
def KW5 : List Str := [Str.ofString "any", Str.ofString "var", Str.ofString "put", Str.ofString "load", Str.ofString "out"]
theorem inV_str {x : Str} : ∀ l : List Str, inV (.str x) (l.map V.str) = decide (x ∈ l)
  | [] => rfl
  | y :: l => by
    have ih := inV_str (x := x) l
    unfold inV at ih ⊢
    rw [List.map_cons, List.any_cons, ih]
    have : eqV (.str y) (.str x) = decide (x = y) := by
      show (y == x) = _
      by_cases h : x = y
      · rw [h]; simp
      · rw [decide_eq_false h]; simpa using fun e => h e.symm
    rw [this]
    by_cases h : x = y
    · simp [h]
    · simp [h]
def wordC (x : Str) : Bool := numC x || (nameC x || (isOp (.str x) || isNg (.str x)))
theorem kw_split {x : Str} : inV (.str x) kwV = (decide (x ∈ KW4) || decide (x ∈ KW5)) := by
  have : inV (.str x) kwV = decide (x ∈ KW4 ++ KW5) := inV_str (KW4 ++ KW5)
  rw [this]
  simp
theorem isOpNg {x : Str} : (isOp (.str x) || isNg (.str x)) = decide (x ∈ KW4) := by
  have h1 : isOp (.str x) = decide (x ∈ [Str.ofString "add", Str.ofString "sub", Str.ofString "mul"]) := inV_str [Str.ofString "add", Str.ofString "sub", Str.ofString "mul"]
  have h2 : isNg (.str x) = decide (x = Str.ofString "neg") := by
    unfold isNg
    by_cases e : x = Str.ofString "neg"
    · rw [decide_eq_true e, okT (by rw [e])]
    · rw [decide_eq_false e, okF (fun h => e (by cases h; rfl))]
  rw [h1, h2]
  unfold KW4
  simp [Bool.or_assoc]
theorem len_list {x : Str} : x.cps.toList.length = x.length := by simp [Str.length]
theorem goodN {x : Str} (h5 : x ∉ KW5) (h4 : x ∉ KW4) : wordC x = ((decide (0 < x.length) && decide (x.length < 9) && x.cps.toList.all fun c => decide (c ∈ LT.cps.toList)) || numC x) := by
  unfold wordC nameC
  rw [isOpNg, kw_split, decide_eq_false h4, decide_eq_false h5]
  have a1 : decide ((x.length : Int) < 1) = !decide (0 < x.length) := by
    by_cases h : 0 < x.length
    · rw [decide_eq_true h, decide_eq_false (by omega)]; rfl
    · rw [decide_eq_false h, decide_eq_true (by omega)]; rfl
  have a2 : decide ((x.length : Int) > 8) = !decide (x.length < 9) := by
    by_cases h : x.length < 9
    · rw [decide_eq_true h, decide_eq_false (by omega)]; rfl
    · rw [decide_eq_false h, decide_eq_true (by omega)]; rfl
  rw [a1, a2]
  cases decide (0 < x.length) <;> cases decide (x.length < 9) <;> cases (x.cps.toList.all fun c => decide (c ∈ LT.cps.toList)) <;> cases numC x <;> rfl
theorem chn_ok {n : Int} : tR (chnR fLt fLt (R.ok (D.int 0)) (R.ok (.int n)) (R.ok (D.int 9))) = R.ok (decide (0 < n) && decide (n < 9)) := by
  have e : ∀ i j : Int, fLt (.int i) (.int j) = some (.bl (decide (i < j))) := fun i j => by rw [vLt, okD]
  unfold chnR
  rw [bnd_ok, bnd_ok, e]
  cases decide ((0 : Int) < n)
  · rfl
  · rw [bnd_ok, e]
    rfl
theorem figs_zero {x : Str} (hx : x ≠ Str.ofString "-0") (h : figs x = Str.ofString "0") : x = Str.ofString "0" := by
  unfold figs at h
  split at h
  · rename_i hc
    refine absurd (str_ext ?_) hx
    have h1 : (cutS x none (some 1)).cps.toList = (Str.ofString "-").cps.toList := congrArg (fun s : Str => s.cps.toList) hc
    have h2 : (cutS x (some 1) none).cps.toList = (Str.ofString "0").cps.toList := congrArg (fun s : Str => s.cps.toList) h
    rw [cut_head] at h1
    rw [cut_tail] at h2
    have e1 : (Str.ofString "-").cps.toList = [45] := by decide +kernel
    have e2 : (Str.ofString "0").cps.toList = [48] := by decide +kernel
    have e3 : (Str.ofString "-0").cps.toList = [45, 48] := by decide +kernel
    rw [e3, ← List.take_append_drop 1 x.cps.toList, h1, h2, e1, e2]
    rfl
  · exact h
theorem figs_len (x : Str) : (figs x).length ≤ x.length := by
  unfold figs
  split
  · exact len_cut _ _ _
  · exact Nat.le_refl _
theorem empty_iff {y : Str} : (y = Str.ofString "") ↔ y.length < 1 := by
  constructor
  · rintro rfl
    decide +kernel
  · intro h
    refine str_ext ?_
    have : y.cps.toList.length = 0 := by rw [len_list]; omega
    rw [List.length_eq_zero_iff.mp this]
    rfl
theorem good_word_ok {x : Str} (hx : x.length ≤ 1000000) : p_law_good_word [.str x] = R.ok (.bl (wordC x), []) := by
  have e4 : fIn false (.str x) (.lst [D.str (Str.ofString "add"), D.str (Str.ofString "sub"), D.str (Str.ofString "mul"), D.str (Str.ofString "neg")]) = some (.bl (decide (x ∈ KW4))) := by
    show some (D.bl (inV (.str x) (KW4.map V.str))) = _
    rw [inV_str]
  have e5 : fIn false (.str x) (.lst [D.str (Str.ofString "any"), D.str (Str.ofString "var"), D.str (Str.ofString "put"), D.str (Str.ofString "load"), D.str (Str.ofString "out")]) = some (.bl (decide (x ∈ KW5))) := by
    show some (D.bl (inV (.str x) (KW5.map V.str))) = _
    rw [inV_str]
  have hf := figs_len x
  have s1 := signs_in (x := x) (z := LT) (ft := fun d => (R.ok d).bnd fun sign => (tR (op2 (fInS false) (R.ok sign) (R.ok (D.str (Str.ofString "abcdefghijklmnopqrstuvwxyz")))))) (fe := fun d => (R.ok d).bnd fun sign => (immR (R.ok sign))) hx (fun _ => rfl) (fun d h => by rw [bnd_ok, immR_ok h])
  have s2 := signs_in (x := figs x) (z := FG) (ft := fun d => (R.ok d).bnd fun sign_2 => (tR (op2 (fInS false) (R.ok sign_2) (R.ok (D.str (Str.ofString "0123456789")))))) (fe := fun d => (R.ok d).bnd fun sign_2 => (immR (R.ok sign_2))) (by omega) (fun _ => rfl) (fun d h => by rw [bnd_ok, immR_ok h])
  have e0 : (R.bnd (iteR (tR (op2 fEq (slR (R.ok (.str x)) (R.ok (none : Option Int)) (oSo (R.ok (D.int 1)))) (R.ok (D.str (Str.ofString "-")))))
    (R.bnd (lfR (slR (R.ok (.str x)) (oSo (R.ok (D.int 1))) (R.ok (none : Option Int)))) fun left_3 =>
    (R.ok left_3))
    (R.ok (.str x))) fun z => R.ok z) = R.ok (.str (figs x)) := by
    walk_at "fl"
    unfold figs
    rw [okD]
    by_cases h : cutS x none (some 1) = Str.ofString "-"
    · rw [decide_eq_true h, if_pos rfl, if_pos h]; rfl
    · rw [decide_eq_false h, if_neg (by decide), if_neg h]; rfl
  have key : ∀ (m : R D) (k : D → R (D × List D)) (y : D), (R.bnd m fun z => R.ok z) = R.ok y → m.bnd k = k y := fun m k y h => by
    cases m with
    | ok z => rw [bnd_ok] at h; cases h; rfl
    | ex x => cases h
    | bad => cases h
  have lenE : bltR gLen (consR (R.ok (.str x)) (R.ok ([] : List D))) = R.ok (.int x.length) := by walk_at "fl"
  have lenF : bltR gLen (consR (R.ok (.str (figs x))) (R.ok ([] : List D))) = R.ok (.int (figs x).length) := by walk_at "fl"
  have lenL : ∀ l : List D, bltR gLen (consR (R.ok (.lst l)) (R.ok ([] : List D))) = R.ok (.int l.length) := fun l => by walk_at "fl"
  have t4 : tR (op2 (fIn false) (R.ok (.str x)) (lstR (consR (R.ok (D.str (Str.ofString "add"))) (consR (R.ok (D.str (Str.ofString "sub"))) (consR (R.ok (D.str (Str.ofString "mul"))) (consR (R.ok (D.str (Str.ofString "neg"))) (R.ok ([] : List D)))))))) = R.ok (decide (x ∈ KW4)) := by
    walk_at "fl"
    rw [e4]
    rfl
  have t5 : tR (op2 (fIn false) (R.ok (.str x)) (lstR (consR (R.ok (D.str (Str.ofString "any"))) (consR (R.ok (D.str (Str.ofString "var"))) (consR (R.ok (D.str (Str.ofString "put"))) (consR (R.ok (D.str (Str.ofString "load"))) (consR (R.ok (D.str (Str.ofString "out"))) (R.ok ([] : List D))))))))) = R.ok (decide (x ∈ KW5)) := by
    walk_at "fl"
    rw [e5]
    rfl
  unfold p_law_good_word
  rw [noexF_eq, ar1_eq, t4, iteR_ok]
  by_cases h4 : x ∈ KW4
  · rw [decide_eq_true h4, if_pos rfl]
    have : wordC x = true := by unfold wordC; rw [isOpNg, decide_eq_true h4]; simp
    rw [this]
    rfl
  rw [decide_eq_false h4, if_neg (by decide), t5, iteR_ok]
  by_cases h5 : x ∈ KW5
  · rw [decide_eq_true h5, if_pos rfl]
    have : wordC x = false := by
      unfold wordC
      rw [isOpNg, decide_eq_false h4]
      have : ∀ x ∈ KW5, (numC x || (nameC x || false)) = false := by decide +kernel
      exact this x h5
    rw [this]
    rfl
  rw [decide_eq_false h5, if_neg (by decide), goodN h5 h4, s1, bnd_ok, lenE, lenL, chn_ok, op2_ok, vEqI, of_some, tR_ok, andT_ok, iteR_ok, List.length_map]
  have a1 : okP (((x.cps.toList.filter fun c => decide (c ∈ LT.cps.toList)).length : Int) = (x.length : Int)) = x.cps.toList.all fun c => decide (c ∈ LT.cps.toList) := by
    have := filter_len (fun c => decide (c ∈ LT.cps.toList)) x.cps.toList
    rw [len_list] at this
    cases ha : x.cps.toList.all fun c => decide (c ∈ LT.cps.toList)
    · rw [ha] at this
      exact okF fun e => by have h := this.mp (by omega); cases h
    · rw [ha] at this
      exact okT (by have := this.mpr rfl; omega)
  have a2 : (decide ((0 : Int) < (x.length : Int)) && decide ((x.length : Int) < 9)) = (decide (0 < x.length) && decide (x.length < 9)) := by
    congr 1
    · by_cases h : 0 < x.length
      · rw [decide_eq_true h, decide_eq_true (by omega)]
      · rw [decide_eq_false h, decide_eq_false (by omega)]
    · by_cases h : x.length < 9
      · rw [decide_eq_true h, decide_eq_true (by omega)]
      · rw [decide_eq_false h, decide_eq_false (by omega)]
  rw [a1, a2]
  cases hA : (decide (0 < x.length) && decide (x.length < 9) && x.cps.toList.all fun c => decide (c ∈ LT.cps.toList))
  case true => rfl
  rw [if_neg (by decide), immR_ok (d := .str x) rfl, bnd_ok, key _ _ _ e0, s2, bnd_ok, lenF, lenL, Bool.false_or]
  have b1 : okP (((((figs x).cps.toList.filter fun c => decide (c ∈ FG.cps.toList)).map fun c => D.str ⟨#[c]⟩).length : Int) < ((figs x).length : Int)) = !(figs x).cps.toList.all fun c => decide (c ∈ FG.cps.toList) := by
    have := filter_len (fun c => decide (c ∈ FG.cps.toList)) (figs x).cps.toList
    have hle := List.length_filter_le (fun c => decide (c ∈ FG.cps.toList)) (figs x).cps.toList
    rw [len_list] at this hle
    rw [List.length_map]
    cases ha : (figs x).cps.toList.all fun c => decide (c ∈ FG.cps.toList)
    · rw [ha] at this
      exact okT (by
        rcases Nat.lt_or_ge ((figs x).cps.toList.filter fun c => decide (c ∈ FG.cps.toList)).length (figs x).length with h | h
        · omega
        · have h := this.mp (by omega); cases h)
    · rw [ha] at this
      exact okF (by have := this.mpr rfl; omega)
  have b2 : okP (figs x = Str.ofString "") = decide (((figs x).length : Int) < 1) := by
    by_cases h : figs x = Str.ofString ""
    · rw [okT h, decide_eq_true (by have := empty_iff.mp h; omega)]
    · rw [okF h, decide_eq_false (fun h2 => h (empty_iff.mpr (by omega)))]
  simp only [op2_ok, vEqS, vGt, vLt, b1, b2, okD, of_some, tR_ok, orT_ok, iteR_ok]
  unfold numC
  cases n1 : decide (((figs x).length : Int) < 1)
  case true => rfl
  cases n2 : decide (((figs x).length : Int) > 60)
  case true => rfl
  cases n3 : (figs x).cps.toList.all fun c => decide (c ∈ FG.cps.toList)
  case false => rfl
  have hpos : 1 ≤ (figs x).length := by have := of_decide_eq_false n1; omega
  by_cases h0 : x = Str.ofString "-0"
  · subst h0
    have r : (!(false || false) && (true && (!decide ((⟨#[(figs (Str.ofString "-0")).cps.toList.getD 0 0]⟩ : Str) = Str.ofString "0") || decide (Str.ofString "-0" = Str.ofString "0")))) = false := by decide +kernel
    rw [r, decide_eq_true (rfl : Str.ofString "-0" = Str.ofString "-0")]
    rfl
  · rw [decide_eq_false h0]
    simp only [Bool.false_or, Bool.not_true, Bool.or_false, Bool.false_eq_true, if_false, Bool.not_false, Bool.true_and]
    rw [vIxS (by omega) (by omega) (by omega)]
    have e6 : fNe (.str ⟨#[(figs x).cps.toList.getD (0 : Int).toNat 0]⟩) (.str (Str.ofString "0")) = some (.bl (!decide ((⟨#[(figs x).cps.toList.getD 0 0]⟩ : Str) = Str.ofString "0"))) := by
      rw [vNeS, okD]
      rfl
    rw [of_some, op2_ok, e6, of_some, orR_ok]
    have e7 : decide (figs x = Str.ofString "0") = decide (x = Str.ofString "0") := by
      by_cases h : x = Str.ofString "0"
      · subst h
        decide +kernel
      · rw [decide_eq_false h, decide_eq_false (fun e => h (figs_zero h0 e))]
    rw [e7]
    cases decide (x = Str.ofString "0") <;> cases decide ((⟨#[(figs x).cps.toList.getD 0 0]⟩ : Str) = Str.ofString "0") <;> rfl
def ioB : D → D → R (Step D (D × List D)) := (fun x l_due_1 => (R.ok x).bnd fun word_3 =>
    (iteR (tR (op2 fEq (R.ok l_due_1) (R.ok (D.int 0))))
    ((R.ok (D.bl false)).bnd fun d => R.ok (Step.rt (d, [])))
    (R.bnd (op2 fAdd (op2 fSub (R.ok l_due_1) (R.ok (D.int 1))) (callP p_wanted_by (consR (R.ok word_3) (R.ok ([] : List D))))) fun due_4 =>
    (R.ok (Step.nx due_4)))))
def q_is_one : List D → R (D × List D) := noexF (ar1 fun words =>
    (R.bnd (R.ok (D.int 1)) fun due =>
    (thenS ((itR itLD (R.ok words)).bnd fun xs => forS ioB xs due) fun e_due_2 =>
    ((op2 fEq (R.ok e_due_2) (R.ok (D.int 0))).bnd fun d => R.ok (d, [])))))
theorem q_is_one_eq : p_is_one = q_is_one := rfl
def gdB : D → D → R (Step D (D × List D)) := (fun x l_due_1 => (R.ok x).bnd fun word_3 =>
    (iteR (orT (tR (op2 fLt (R.ok l_due_1) (R.ok (D.int 1)))) (notT (tR (callP p_law_good_word (consR (R.ok word_3) (R.ok ([] : List D)))))))
    ((R.ok (D.bl false)).bnd fun d => R.ok (Step.rt (d, [])))
    (iteR (tR (op2 (fIn false) (R.ok word_3) (lstR (consR (R.ok (D.str (Str.ofString "add"))) (consR (R.ok (D.str (Str.ofString "sub"))) (consR (R.ok (D.str (Str.ofString "mul"))) (R.ok ([] : List D))))))))
    (R.bnd (op2 fAdd (R.ok l_due_1) (R.ok (D.int 1))) fun due_8 =>
    (R.ok (Step.nx due_8)))
    (R.bnd (iteR (tR (op2 fNe (R.ok word_3) (R.ok (D.str (Str.ofString "neg")))))
    (R.bnd (op2 fSub (R.ok l_due_1) (R.ok (D.int 1))) fun due_10 =>
    (R.ok due_10))
    (R.ok l_due_1)) fun j_due_2 =>
    (R.ok (Step.nx j_due_2))))))
def q_law_good : List D → R (D × List D) := noexF (ar1 fun text =>
    (R.bnd (R.ok (D.int 1)) fun due =>
    (thenS ((itR itsD (op2 splitD (R.ok text) (R.ok (D.str (Str.ofString " "))))).bnd fun xs => forS gdB xs due) fun e_due_3 =>
    ((op2 fEq (R.ok e_due_3) (R.ok (D.int 0))).bnd fun d => R.ok (d, [])))))
theorem q_good_eq : p_law_good = q_law_good := rfl
/-! reading -/
theorem kw4_no : ∀ x ∈ KW4, numC x = false ∧ nameC x = false := by decide +kernel
theorem fg_list : FG.cps.toList = [48, 49, 50, 51, 52, 53, 54, 55, 56, 57] := by decide +kernel
theorem num_parts {x : Str} (h : numC x = true) : 1 ≤ (figs x).length ∧ (figs x).length ≤ 60 ∧ ∀ c ∈ (figs x).cps.toList, 48 ≤ c ∧ c ≤ 57 := by
  unfold numC at h
  simp only [Bool.and_eq_true, Bool.not_eq_true', Bool.or_eq_false_iff, decide_eq_false_iff_not, List.all_eq_true, decide_eq_true_eq] at h
  obtain ⟨⟨h1, h2⟩, h3, _⟩ := h
  refine ⟨by omega, by omega, fun c hc => ?_⟩
  have := h3 c hc
  rw [fg_list] at this
  simp only [List.mem_cons, List.not_mem_nil, or_false] at this
  omega
theorem num_int {x : Str} (h : numC x = true) : ∃ n, PySem.intText? x = some n ∧ x.length ≤ 640 := by
  obtain ⟨h1, h2, h3⟩ := num_parts h
  by_cases hc : cutS x none (some 1) = Str.ofString "-"
  · have hf : figs x = cutS x (some 1) none := if_pos hc
    have e1 : (cutS x none (some 1)).cps.toList = (Str.ofString "-").cps.toList := congrArg (fun s : Str => s.cps.toList) hc
    rw [cut_head, show (Str.ofString "-").cps.toList = [45] by decide +kernel] at e1
    rw [hf, cut_tail] at h3
    have ex : x.cps.toList = 45 :: x.cps.toList.drop 1 := by
      conv => lhs; rw [← List.take_append_drop 1 x.cps.toList, e1]
      rfl
    have hl : (x.cps.toList.drop 1).length = (figs x).length := by rw [hf, ← len_list, cut_tail]
    have hx : x.length = (x.cps.toList.drop 1).length + 1 := by rw [← len_list]; conv => lhs; rw [ex]
                                                                rfl
    exact ⟨_, PySem.intText_neg ex h3 (fun e => by rw [e] at hl; simp at hl; omega) (by omega), by omega⟩
  · have hf : figs x = x := if_neg hc
    rw [hf] at h1 h2 h3
    exact ⟨_, PySem.intText_digits h3 (fun e => by have := len_list (x := x); rw [e] at this; simp at this; omega) (by omega), by omega⟩
def wordD (x : Str) : D := if numC x = true then .int ((PySem.intText? x).getD 0) else if (nameC x || decide (x ∈ KW4)) = true then .str x else .non
theorem word_no {x : Str} (h : wordC x = false) : wordD x = .non := by
  unfold wordC at h
  rw [isOpNg, Bool.or_eq_false_iff] at h
  unfold wordD
  rw [h.1, h.2]
  rfl
theorem word_sc {x : Str} (h : wordC x = true) : Sc (wordD x) := by
  unfold wordC at h
  rw [isOpNg] at h
  unfold wordD
  cases hn : numC x
  · rw [hn, Bool.false_or] at h
    rw [h]
    exact .inr ⟨_, rfl⟩
  · exact .inl ⟨_, rfl⟩
theorem want_word {x : Str} (h : wordC x = true) : want (wordD x) = if isOp (.str x) = true then 2 else if isNg (.str x) = true then 1 else 0 := by
  unfold wordC at h
  rw [isOpNg] at h
  unfold wordD
  cases hn : numC x
  · rw [hn, Bool.false_or] at h
    rw [h]
    rfl
  · have hk : x ∉ KW4 := fun hk => by rw [(kw4_no x hk).1] at hn; cases hn
    have := isOpNg (x := x)
    rw [decide_eq_false hk, Bool.or_eq_false_iff] at this
    rw [this.1, this.2]
    exact want_int
theorem gInt_txt {x : Str} {n : Int} (hl : x.length ≤ 640) (h : PySem.intText? x = some n) : gInt [.str x] = some (.int n) := by
  show (if okP (x.length ≤ 640) = true then (match PySem.intText? x with | some n => some (D.int n) | none => none) else none) = _
  rw [if_pos (okT hl), h]
theorem word_of_ok {x : Str} (hx : x.length ≤ 1000000) : p_word_of [.str x] = R.ok (wordD x, []) := by
  apply sat_eq
  unfold p_word_of
  walk_at "fl"
  rw [is_number_ok hx]
  walk_at "fl"
  unfold wordD
  cases hn : numC x
  · rw [is_name_ok hx, wanted_ok (d := .str x) (.inr ⟨_, rfl⟩)]
    walk_at "fl"
    have : okP ((0 : Int) < (want (.str x) : Int)) = decide (x ∈ KW4) := by
      rw [← isOpNg]
      unfold want
      cases isOp (.str x)
      · cases isNg (.str x)
        · exact okF (by simp)
        · exact okT (by simp)
      · exact okT (by simp)
    rw [this]
    cases (nameC x || decide (x ∈ KW4)) <;> exact sat_ok.mpr rfl
  · obtain ⟨n, e, hl⟩ := num_int hn
    rw [gInt_txt hl e, e]
    exact sat_ok.mpr rfl
def oneB : Nat → List D → Bool
  | d, [] => decide (d = 0)
  | d, w :: l => if d = 0 then false else oneB (d - 1 + want w) l
theorem io_loop : ∀ (l : List D) (k : Nat), (∀ d ∈ l, Sc d) → (thenS (forS ioB l (.int (k : Nat))) fun e_due_2 => ((op2 fEq (R.ok e_due_2) (R.ok (D.int 0))).bnd fun d => R.ok (d, ([] : List D)))) = R.ok (.bl (oneB k l), [])
  | [], k, _ => by
    rw [forS_nil, thenS_nx, op2_ok, vEqI, of_some, bnd_ok]
    congr 3
    unfold oneB
    rw [okD]
    by_cases h : k = 0
    · rw [decide_eq_true h, decide_eq_true (by omega)]
    · rw [decide_eq_false h, decide_eq_false (by omega)]
  | w :: l, k, h => by
    have hs := h w (by simp)
    rw [forS_cons, oneB]
    by_cases h0 : k = 0
    · rw [if_pos h0]
      have : ioB w (.int (k : Nat)) = R.ok (Step.rt (.bl false, [])) := by
        unfold ioB
        walk_at "fl"
        rw [okT (by omega)]
        rfl
      rw [this]
      rfl
    · rw [if_neg h0]
      have : ioB w (.int (k : Nat)) = R.ok (Step.nx (.int ((k - 1 + want w : Nat) : Int))) := by
        unfold ioB
        walk_at "fl"
        rw [okF (by omega), wanted_ok hs]
        walk_at "fl"
        congr 3
        omega
      rw [this, bnd_ok]
      exact io_loop l _ fun d hd => h d (by simp [hd])
theorem is_one_ok {l : List D} (h : ∀ d ∈ l, Sc d) : p_is_one [.lst l] = R.ok (.bl (oneB 1 l), []) := by
  rw [q_is_one_eq]
  unfold q_is_one
  rw [noexF_eq, ar1_eq, bnd_ok, vItL, bnd_ok]
  show R.noex (thenS (forS ioB l (.int ((1 : Nat) : Int))) _) = _
  rw [io_loop l 1 h]
  rfl
theorem none_in : ∀ ws : List Str, ∃ vs, scs (ws.map wordD) = some vs ∧ inV .non vs = !ws.all wordC
  | [] => ⟨[], rfl, rfl⟩
  | w :: ws => by
    obtain ⟨vs, e, hi⟩ := none_in ws
    cases hw : wordC w
    · refine ⟨.non :: vs, by rw [List.map_cons, word_no hw]; unfold scs; rw [e]; rfl, ?_⟩
      rw [List.all_cons, hw]
      rfl
    · rcases word_sc hw with ⟨i, hd⟩ | ⟨x, hd⟩
      · refine ⟨.int i :: vs, by rw [List.map_cons, hd]; unfold scs; rw [e]; rfl, ?_⟩
        rw [List.all_cons, hw]
        exact hi
      · refine ⟨.str x :: vs, by rw [List.map_cons, hd]; unfold scs; rw [e]; rfl, ?_⟩
        rw [List.all_cons, hw]
        exact hi
def SP : Str := Str.ofString " "
def parts (x : Str) : List Str := Txt.split x SP
theorem sp_len : SP.length = 1 := by decide +kernel
theorem split_ok {x : Str} (hl : x.length ≤ 1000000) : splitD (.str x) (.str SP) = some (.lst ((parts x).map D.str)) := by
  have hk : splitOk x SP = true := okT ⟨by rw [sp_len]; rfl, by show _ ≤ 16777216; omega⟩
  show (if splitOk x SP = true then some (D.lst ((Txt.split x SP).map D.str)) else none) = _
  rw [if_pos hk]
  rfl
theorem parts_short {x w : Str} (h : w ∈ parts x) : w.length ≤ x.length := part_short h
theorem parts_len (x : Str) : (parts x).length ≤ x.length + 3 := by
  unfold parts Txt.split
  split
  · simp
  · split
    · simp
    · rw [length_partsBetween]
      have := StrLaws.occ_length_le x SP 0 x.length (x.length + 1)
      omega
def readB (x : Str) : Bool := (parts x).all wordC && oneB 1 ((parts x).map wordD)
theorem read_ok {x : Str} (hl : x.length ≤ 1000000) : p_read_term [.str x] = if readB x = true then R.ok (.tup ((parts x).map wordD), []) else R.ex ⟨"NoTerm", []⟩ := by
  have hpl := parts_len x
  have e := lcR_map (ft := fun d => (R.ok d).bnd fun word => (R.ok true)) (fe := fun d => (R.ok d).bnd fun word => (callP p_word_of (consR (R.ok word) (R.ok ([] : List D))))) D.str wordD (parts x) fun w hw => ⟨rfl, by
    rw [bnd_ok, consR_ok, callP_ok, word_of_ok (Nat.le_trans (parts_short hw) hl)]
    rfl⟩
  have e3 : itR itsD (op2 splitD (R.ok (.str x)) (R.ok (.str SP))) = R.ok ((parts x).map D.str) := by
    rw [op2_ok, split_ok hl]
    rfl
  obtain ⟨vs, hvs, hin⟩ := none_in (parts x)
  have e2 : fIn false .non (.lst ((parts x).map wordD)) = some (.bl (!(parts x).all wordC)) := by simp [fIn, D.sc, hvs, hin]
  unfold p_read_term
  rw [ar1_eq]
  show ((lcD (itR itsD (op2 splitD (R.ok (.str x)) (R.ok (.str SP)))) _ _).bnd _) = _
  rw [e3, lcD_ok e (by rw [List.length_map]; omega), bnd_ok, op2_ok, e2, of_some, tR_ok]
  unfold readB
  cases ha : (parts x).all wordC
  · rw [Bool.false_and, if_neg (by decide)]
    rfl
  · have hsc : ∀ d ∈ (parts x).map wordD, Sc d := fun d hd => by
      obtain ⟨w, hw, rfl⟩ := List.mem_map.mp hd
      exact word_sc (List.all_eq_true.mp ha w hw)
    have hi : imms ((parts x).map wordD) = true := imms_all fun d hd => sc_imm (hsc d hd)
    rw [consR_ok, callP_ok, is_one_ok hsc]
    cases oneB 1 ((parts x).map wordD)
    · rfl
    · walk_at "fl"
      rfl
theorem gd_loop : ∀ (ws : List Str) (k : Nat), (∀ w ∈ ws, w.length ≤ 1000000) → (thenS (forS gdB (ws.map D.str) (.int (k : Nat))) fun e_due_3 => ((op2 fEq (R.ok e_due_3) (R.ok (D.int 0))).bnd fun d => R.ok (d, ([] : List D)))) = R.ok (.bl (ws.all wordC && oneB k (ws.map wordD)), [])
  | [], k, _ => by
    rw [List.map_nil, forS_nil, thenS_nx, op2_ok, vEqI, of_some, bnd_ok, List.all_nil, Bool.true_and]
    congr 3
    show _ = decide (k = 0)
    rw [okD]
    by_cases h : k = 0
    · rw [decide_eq_true h, decide_eq_true (by omega)]
    · rw [decide_eq_false h, decide_eq_false (by omega)]
  | w :: ws, k, h => by
    have hw := good_word_ok (h w (by simp))
    have e1 : fIn false (.str w) (.lst [D.str (Str.ofString "add"), D.str (Str.ofString "sub"), D.str (Str.ofString "mul")]) = some (.bl (isOp (.str w))) := in_ops (.inr ⟨_, rfl⟩)
    have e2 : okP (w = Str.ofString "neg") = isNg (.str w) := by
      unfold isNg
      by_cases e : w = Str.ofString "neg"
      · rw [okT e, okT (by rw [e])]
      · rw [okF e, okF (fun h => e (by cases h; rfl))]
    rw [List.map_cons, List.map_cons, forS_cons, List.all_cons, oneB]
    by_cases h0 : k = 0
    · rw [if_pos h0, Bool.and_false]
      have : gdB (.str w) (.int (k : Nat)) = R.ok (Step.rt (.bl false, [])) := by
        unfold gdB
        walk_at "fl"
        rw [okT (by omega), hw]
        walk_at "fl"
      rw [this]
      rfl
    · rw [if_neg h0]
      cases hc : wordC w
      · have : gdB (.str w) (.int (k : Nat)) = R.ok (Step.rt (.bl false, [])) := by
          unfold gdB
          walk_at "fl"
          rw [hw, hc]
          walk_at "fl"
        rw [this, Bool.false_and, Bool.false_and]
        rfl
      · have : gdB (.str w) (.int (k : Nat)) = R.ok (Step.nx (.int ((k - 1 + want (wordD w) : Nat) : Int))) := by
          unfold gdB
          walk_at "fl"
          rw [okF (by omega), hw, hc, e1, want_word hc]
          walk_at "fl"
          rw [e2]
          cases isOp (.str w)
          · cases isNg (.str w)
            · walk_at "fl"
              congr 3
              simp; omega
            · walk_at "fl"
              congr 3
              simp; omega
          · walk_at "fl"
            congr 3
            simp; omega
        rw [this, bnd_ok, Bool.true_and]
        exact gd_loop ws _ fun w hw => h w (by simp [hw])
theorem good_ok {x : Str} (hl : x.length ≤ 1000000) : p_law_good [.str x] = R.ok (.bl (readB x), []) := by
  have e3 : itR itsD (op2 splitD (R.ok (.str x)) (R.ok (.str SP))) = R.ok ((parts x).map D.str) := by
    rw [op2_ok, split_ok hl]
    rfl
  rw [q_good_eq]
  unfold q_law_good
  rw [noexF_eq, ar1_eq, bnd_ok]
  show R.noex (thenS ((itR itsD (op2 splitD (R.ok (.str x)) (R.ok (.str SP)))).bnd fun xs => forS gdB xs (.int ((1 : Nat) : Int))) _) = _
  rw [e3, bnd_ok, gd_loop (parts x) 1 fun w hw => Nat.le_trans (parts_short hw) hl]
  rfl
theorem right_ok {x : Str} (hl : x.length ≤ 1000000) : p_law_right [.str x] = R.ok (.bl true, []) := by
  have hr := read_ok hl
  have hg := good_ok hl
  have hpl := parts_len x
  have cg : callP p_law_good (consR (R.ok (.str x)) (R.ok ([] : List D))) = R.ok (.bl (readB x)) := by
    rw [consR_ok, callP_ok, hg]
    rfl
  have esp : bltR gLen (consR (op2 splitD (R.ok (.str x)) (R.ok (D.str (Str.ofString " ")))) (R.ok ([] : List D))) = R.ok (.int (parts x).length) := by
    show bltR gLen (consR (op2 splitD (R.ok (.str x)) (R.ok (D.str SP))) (R.ok ([] : List D))) = _
    rw [op2_ok, split_ok hl, of_some, consR_ok]
    show R.of (some (D.int (((parts x).map D.str).length : Nat))) = _
    rw [List.length_map]
    rfl
  unfold p_law_right
  rw [noexF_eq, ar1_eq, bnd_ok, bnd_ok, cg, esp]
  cases hb : readB x
  · have ht : tryJ exNames (bnd2 (callR p_read_term (consR (R.ok (.str x)) (R.ok ([] : List D)))) fun found_3 t1 => (R.ok (found_3, D.non))) (fun e3 => (D.non, e3)) = R.ok (D.non, .exc (Str.ofString "NoTerm") [] []) := by
      rw [consR_ok]
      unfold callR
      rw [bnd_ok, hr, hb]
      show (if exNames.contains (Str.ofString "NoTerm") = true then R.ok ((D.non, D.exc (Str.ofString "NoTerm") [] []) : D × D) else R.bad) = _
      rw [if_pos (by decide +kernel)]
    have hx1 : isXD supC exNames ["BadCover", "BadDeed", "BadRow", "BadShape", "NoBox", "NoCover", "NoName", "NoValue", "Twice", "Unsound"] (.exc (Str.ofString "NoTerm") [] []) = some (.bl false) := by
      show (if exNames.contains (Str.ofString "NoTerm") = true then some (D.bl _) else none) = _
      rw [if_pos (by decide +kernel)]
      congr 2
    have hx2 : isXD supC exNames ["NoTerm"] (.exc (Str.ofString "NoTerm") [] []) = some (.bl true) := by
      show (if exNames.contains (Str.ofString "NoTerm") = true then some (D.bl _) else none) = _
      rw [if_pos (by decide +kernel)]
      congr 2
    have hx3 : isVE exNames (.exc (Str.ofString "NoTerm") [] []) = some (.bl true) := by
      show (if exNames.contains (Str.ofString "NoTerm") = true then some (D.bl _) else none) = _
      rw [if_pos (by decide +kernel)]
    rw [ht, bnd_ok]
    simp only [un1_ok, hx1, hx2, hx3]
    rfl
  · have ht : tryJ exNames (bnd2 (callR p_read_term (consR (R.ok (.str x)) (R.ok ([] : List D)))) fun found_3 t1 => (R.ok (found_3, D.non))) (fun e3 => (D.non, e3)) = R.ok (.tup ((parts x).map wordD), D.non) := by
      rw [consR_ok]
      unfold callR
      rw [bnd_ok, hr, hb]
      rfl
    rw [ht, bnd_ok, tR_ok, iteR_ok, if_pos rfl]
    have i1 : fIs false D.non D.non = some (.bl true) := rfl
    have i2 : isiD .tuple (.tup ((parts x).map wordD)) = some (.bl true) := rfl
    simp only [op2_ok, un1_ok, i1, i2]
    walk_at "fl"
    rw [List.length_map, okT rfl]
    rfl
def deckD (cs : List Int) (n : Int) : D := .lst [.lst (cs.map D.int), .int n]
theorem sum_ok {cs : List Int} : gSum [.lst (cs.map D.int)] = some (.int cs.sum) := by
  unfold gSum
  have : ∀ ns : List Int, intsD (ns.map D.int) = some ns := fun ns => by
    induction ns with
    | nil => rfl
    | cons a l ih => rw [List.map_cons, intsD, ih]
  simp only [this]
theorem getD_anyInt {cs : List Int} {n : Nat} (h : n < cs.length) : ∃ v : Int, (cs.map D.int).getD n .non = .int v := ⟨cs[n], by rw [List.getD_eq_getElem?_getD, List.getElem?_map, List.getElem?_eq_getElem h]; rfl⟩
theorem next_ok (cs : List Int) (n : Int) (h0 : 0 ≤ n) (h1 : n ≤ 100000) : (p_law_next [deckD cs n]).sat fun r => ∃ v : Int, r = (.int v, [deckD cs (n + 1)]) := by
  have b1 : (n * n).natAbs ≤ 10000000000 := by
    rw [Int.natAbs_mul]
    exact Nat.le_trans (Nat.mul_le_mul (by omega : n.natAbs ≤ 100000) (by omega : n.natAbs ≤ 100000)) (by decide)
  have b2 : (n * n * n).natAbs ≤ 1000000000000000 := by
    rw [Int.natAbs_mul]
    exact Nat.le_trans (Nat.mul_le_mul b1 (by omega : n.natAbs ≤ 100000)) (by decide)
  have b3 : (31 * n).natAbs ≤ 3100000 := by omega
  obtain ⟨ns, hns, _, _⟩ := cutD_map D.int cs none (some 40)
  unfold p_law_next deckD
  walk_at "fl"
  split
  · rename_i h
    rw [okP_iff, List.length_map] at h
    obtain ⟨v, hv⟩ := getD_anyInt (cs := cs) (n := n.toNat) (by omega)
    walk_at "fl"
    rw [hv]
    exact ⟨v, rfl⟩
  · simp only [hns, sum_ok]
    walk_at "fl"
    exact ⟨_, rfl⟩
/-! texts of bounded length -/
theorem getD_int {P : Int → Prop} {l : List Int} (h : ∀ x ∈ l, P x) {n : Nat} (hn : n < l.length) : ∃ v, (l.map D.int).getD n .non = .int v ∧ P v := by
  refine ⟨l[n], ?_, h _ (List.getElem_mem hn)⟩
  rw [List.getD_eq_getElem?_getD, List.getElem?_map, List.getElem?_eq_getElem hn]
  rfl
theorem sI_mod {a : R D} {P : Int → Prop} {k : Int} (ha : a.sat (IntP P)) (hk : 0 < k) : (op2 fMod a (R.ok (.int k))).sat (IntP fun i => 0 ≤ i ∧ i < k) := by
  obtain ⟨_, rfl, i, rfl, _⟩ := ha
  rw [op2_ok, vMod hk, of_some]
  exact sI_ok ⟨Int.emod_nonneg _ (by omega), Int.emod_lt_of_pos _ hk⟩
theorem sI_div {a : R D} {P : Int → Prop} {k : Int} (ha : a.sat (IntP P)) (hk : 0 < k) (hk2 : k < 1000000) : (op2 fDiv a (R.ok (.int k))).sat (IntP fun _ => True) := by
  obtain ⟨_, rfl, i, rfl, _⟩ := ha
  rw [op2_ok, vDiv hk (by omega), of_some]
  exact sI_ok trivial
theorem sS_str {a : R D} (ha : a.sat (IntP fun i => i.natAbs < 10 ^ 60)) : (bltR gStr (consR a (R.ok ([] : List D)))).sat (StrN 61) := by
  obtain ⟨_, rfl, i, rfl, hi⟩ := ha
  rw [consR_ok]
  have : gStr [.int i] = some (.str (numT i)) := if_pos (okT (log_small hi))
  show (R.of (gStr [.int i])).sat _
  rw [this]
  exact sS_ok (numT_len hi)
theorem sS_up {a : R D} {n : Nat} (ha : a.sat (StrN n)) (hn : n ≤ 10000) : (un1 upperD a).sat (StrN (3 * n)) := by
  obtain ⟨_, rfl, x, rfl, hx⟩ := ha
  have : upperD (.str x) = some (.str (Txt.upper x)) := if_pos (okT (by omega))
  rw [un1_ok, this, of_some]
  have := len_upper x
  exact sS_ok (by omega)
theorem sB_ite {α : Type} {c : R Bool} {x y : R α} {Q : α → Prop} (hc : ∃ b, c = R.ok b) (hx : x.sat Q) (hy : y.sat Q) : (iteR c x y).sat Q := by
  obtain ⟨b, rfl⟩ := hc
  rw [iteR_ok]
  cases b
  · exact hy
  · exact hx
theorem sB_id {α : Type} {m : R α} {Q : α → Prop} (h : m.sat Q) : (m.bnd fun z => R.ok z).sat Q := sat_seq h fun a ha => sat_ok.mpr ha
theorem sL_cat {a b : R D} {P : D → Prop} {m n m' n' : Nat} (ha : a.sat (LstP P m n)) (hb : b.sat (LstP P m' n')) (h : n + n' ≤ 1000000) : (op2 catD a b).sat (LstP P (m + m') (n + n')) := by
  obtain ⟨_, rfl, l, rfl, h1, h2, h3⟩ := ha
  obtain ⟨_, rfl, k, rfl, g1, g2, g3⟩ := hb
  rw [op2_ok, vCatL (by omega), of_some]
  refine sat_ok.mpr ⟨l ++ k, rfl, fun x hx => ?_, by rw [List.length_append]; omega, by rw [List.length_append]; omega⟩
  rcases List.mem_append.mp hx with hx | hx
  · exact h1 x hx
  · exact g1 x hx
theorem sL_lf {a : R D} {n m k : Nat} (ha : a.sat (LstP (StrN k) m n)) : (lfR a).sat (LstP (StrN k) m n) := by
  obtain ⟨_, rfl, l, rfl, h1, h2⟩ := ha
  have : lfR (R.ok (.lst l)) = R.ok (.lst l) := lfR_ok (imms_allP (fun d h => StrN.imm h) h1)
  rw [this]
  exact sat_ok.mpr ⟨l, rfl, h1, h2⟩
theorem sL_cut {a : R D} {P : D → Prop} {m n : Nat} {lo hi : R (Option Int)} (ha : a.sat (LstP P m n)) (h1 : lo.sat fun _ => True) (h2 : hi.sat fun _ => True) : (slR a lo hi).sat (LstP P 0 n) := by
  obtain ⟨_, rfl, l, rfl, q1, q2, q3⟩ := ha
  obtain ⟨u, rfl, _⟩ := h1
  obtain ⟨v, rfl, _⟩ := h2
  show (R.of (some (D.lst (DL.cutD l u v)))).sat _
  rw [of_some]
  refine sat_ok.mpr ⟨_, rfl, fun x hx => q1 x ?_, Nat.zero_le _, ?_⟩
  · unfold DL.cutD at hx
    exact List.mem_of_mem_drop (List.mem_of_mem_take hx)
  · unfold DL.cutD
    rw [List.length_take, List.length_drop]
    omega
theorem sO_none : (R.ok (none : Option Int)).sat fun _ => True := sat_ok.mpr trivial
theorem sO_some {a : R D} {P : Int → Prop} (ha : a.sat (IntP P)) : (oSo a).sat fun _ => True := by
  obtain ⟨_, rfl, i, rfl, _⟩ := ha
  rw [oSo_ok]
  exact sat_ok.mpr trivial
theorem sI_lenL {l : List D} : (bltR gLen (consR (R.ok (.lst l)) (R.ok ([] : List D)))) = R.ok (.int l.length) := rfl
theorem sS_cutO {a : R D} {n : Nat} {lo hi : R (Option Int)} (ha : a.sat (StrN n)) (hn : n ≤ 1000000) (h1 : lo.sat fun _ => True) (h2 : hi.sat fun _ => True) : (slR a lo hi).sat (StrN n) := by
  obtain ⟨u, rfl, _⟩ := h1
  obtain ⟨v, rfl, _⟩ := h2
  exact sS_cut ha (by omega)
theorem len26 : (Str.ofString "abcdefghijklmnopqrstuvwxyz").length = 26 := by decide +kernel
theorem sS_let {b : R D} {P : Int → Prop} (hb : b.sat (IntP P)) : (op2 ixD (R.ok (.str (Str.ofString "abcdefghijklmnopqrstuvwxyz"))) (op2 fMod b (R.ok (D.int 26)))).sat (StrN 1) :=
  sS_sign (by rw [len26]; omega) (sI_mod hb (by omega)) fun i hi => by rw [len26]; exact hi
theorem tEqM {i k j : Int} (hk : 0 < k) : ∃ b, tR (op2 fEq (op2 fMod (R.ok (.int i)) (R.ok (D.int k))) (R.ok (D.int j))) = R.ok b := by
  rw [op2_ok, vMod hk, of_some, op2_ok, vEqI, of_some, tR_ok]
  exact ⟨_, rfl⟩
theorem sgn_len : (Str.ofString " !#$&'()*+,-./0189:;<=>?@AEZ[]^_`aelxz{|}~\n\"\\").length = 45 := by decide +kernel
theorem drawn_ok (c : Int) : (p_law_drawn [.int c]).sat fun r => ∃ x : Str, r = (.str x, []) ∧ x.length ≤ 401 := by
  unfold p_law_drawn
  rw [noexF_eq, ar1_eq, sat_noex, bnd_ok, bnd_ok]
  have ic : (R.ok (D.int c)).sat (IntP fun _ => True) := sI_ok trivial
  refine sat_seq (P := IntP fun _ => True) (sI_div ic (by omega) (by omega)) ?_
  rintro _ ⟨r, rfl, _⟩
  have ir : (R.ok (D.int r)).sat (IntP fun _ => True) := sI_ok trivial
  refine sat_seq (P := IntP fun i => 0 ≤ i ∧ i < 2147483629) (by walk_at "fl"; exact ⟨_, rfl, by omega⟩) ?_
  rintro _ ⟨s, rfl, hs⟩
  refine sat_seq (P := IntP fun i => 0 ≤ i ∧ i < 2147483587) (by walk_at "fl"; exact ⟨_, rfl, by omega⟩) ?_
  rintro _ ⟨t, rfl, ht⟩
  have it : (R.ok (D.int t)).sat (IntP fun _ => True) := sI_ok trivial
  have big : ∀ {a : R D} {k : Int}, a.sat (IntP fun i => 0 ≤ i ∧ i < k) → k ≤ 10 ^ 50 → a.sat (IntP fun i => i.natAbs < 10 ^ 60) := fun h hk => h.mono fun d ⟨i, e, hi⟩ => ⟨i, e, by
    have : (10 : Int) ^ 50 = 100000000000000000000000000000000000000000000000000 := by decide
    have h2 : (10 : Nat) ^ 60 = 1000000000000000000000000000000000000000000000000000000000000 := by decide
    rw [h2]
    omega⟩
  -- the plain word
  refine sat_seq (P := StrN 200) ?_ ?_
  · refine R.sat.mono (sS_cat (n := 3) (m := 61) (k := 64) ?_ (sS_str (big (sI_mod ir (by omega)) (by decide))) (by omega) (by omega)) fun d h => h.le (by omega)
    exact sL_ix (m := 6) (n := 6) (sL_lst (row_cons (sS_ok (by decide)) (row_cons (sS_ok (by decide)) (row_cons (sS_ok (by decide)) (row_cons (sS_ok (by decide)) (row_cons (sS_ok (by decide)) (row_cons (sS_ok (by decide)) row_nil)))))) (by omega)) (sI_mod it (by omega)) fun i h => h
  rintro w0 hw0
  refine sat_seq (P := StrN 200) (sB_ite (tEqM (by omega)) (sB_id ?_) (sat_ok.mpr hw0)) ?_
  · refine R.sat.mono (sS_cat (n := 62) (m := 61) (k := 123) (sS_cat (n := 2) (m := 60) (k := 62) ?_ (sS_rep (k := 6) (n := 10) (sS_ok (by decide +kernel)) (sI_mod ir (by omega)) (fun i hi => by omega) (by omega) (by omega) (by omega)) (by omega) (by omega)) (sS_cutO (sS_str (big (sI_ok (i := t) (P := fun i => 0 ≤ i ∧ i < 2147483587) ht) (by decide))) (by omega) sO_none (sO_some (sI_mod (sI_div ir (by omega) (by omega)) (by omega)))) (by omega) (by omega)) fun d h => h.le (by omega)
    exact sL_ix (m := 4) (n := 4) (sL_lst (row_cons (sS_ok (by decide)) (row_cons (sS_ok (by decide)) (row_cons (sS_ok (by decide)) (row_cons (sS_ok (by decide)) row_nil)))) (by omega)) (sI_mod it (by omega)) fun i h => h
  rintro w1 hw1
  refine sat_seq (P := StrN 200) (sB_ite (tEqM (by omega)) (sB_id ?_) (sat_ok.mpr hw1)) ?_
  · have er : op2 fMod (R.ok (D.int r)) (R.ok (D.int 12)) = R.ok (.int (r % 12)) := by walk_at "fl"
    rw [er]
    have hrng : (rngD 0 (r % 12).toNat).length = (r % 12).toNat := by simp [rngD]
    rw [consR_ok, vRng (by omega) (by omega)]
    refine R.sat.mono (sS_join (n := 1) (k := 12) (m := 0) (R.sat.mono (sL_lc (P := StrN 1) ?_ (by rw [hrng]; omega)) fun d h => h.mono (fun _ h => h) (by omega) (by rw [hrng]; omega)) (by decide) (by omega)) fun d h => h.le (by omega)
    intro d hd
    obtain ⟨i, hi, rfl⟩ := List.mem_map.mp hd
    refine sat_ok.mpr fun _ => ?_
    rw [bnd_ok]
    refine sS_imm (sS_let (P := fun _ => True) ?_)
    have hi' := List.mem_range.mp hi
    walk_at "fl"
    exact ⟨_, rfl, trivial⟩
  rintro w2 hw2
  refine sat_seq (P := StrN 200) (sB_ite (tEqM (by omega)) ?_ (sat_ok.mpr hw2)) ?_
  · refine sat_seq (P := StrN 4) (sS_imm (sL_ix (m := 9) (n := 9) (sL_lst (row_cons (sS_ok (by decide +kernel)) (row_cons (sS_ok (by decide +kernel)) (row_cons (sS_ok (by decide +kernel)) (row_cons (sS_ok (by decide +kernel)) (row_cons (sS_ok (by decide +kernel)) (row_cons (sS_ok (by decide +kernel)) (row_cons (sS_ok (by decide +kernel)) (row_cons (sS_ok (by decide +kernel)) (row_cons (sS_ok (by decide +kernel)) row_nil))))))))) (by omega)) (sI_mod ir (by omega)) fun i h => h)) ?_
    rintro w hw
    have sw : (R.ok w).sat (StrN 4) := sat_ok.mpr hw
    refine sB_id (sS_imm (R.sat.mono (sL_ix (P := StrN 12) (m := 3) (n := 3) (sL_lst (row_cons ?_ (row_cons (sS_up (n := 4) sw (by omega)) (row_cons ?_ row_nil))) (by omega)) (sI_mod (sI_div ir (by omega) (by omega)) (by omega)) fun i h => h) fun d h => h.le (by omega)))
    · exact sS_cat (k := 12) sw (sS_let it) (by omega) (by omega)
    · exact sS_cat (k := 12) (sS_let it) sw (by omega) (by omega)
  rintro w3 hw3
  have s3 : (R.ok w3).sat (StrN 200) := sat_ok.mpr hw3
  refine sat_seq (P := StrN 401) (sB_ite ?_ ?_ (sat_ok.mpr (hw3.le (by omega)))) ?_
  · exact ⟨_, by walk_at "fl"; rfl⟩
  · obtain ⟨x3, rfl, hx3⟩ := hw3
    refine sat_seq (P := IntP fun _ => True) ?_ ?_
    · walk_at "fl"
      exact ⟨_, rfl, trivial⟩
    rintro _ ⟨a, rfl, _⟩
    have ia : (R.ok (D.int a)).sat (IntP fun _ => True) := sI_ok trivial
    refine sB_id (sS_cat (n := 201) (m := 200) (k := 401) (sS_cat (n := 200) (m := 1) (k := 201) (sS_cutO s3 (by omega) sO_none (sO_some ia)) ?_ (by omega) (by omega)) (sS_cutO s3 (by omega) (sO_some ia) sO_none) (by omega) (by omega))
    have el : bltR gLen (consR (R.ok (D.str (Str.ofString " !#$&'()*+,-./0189:;<=>?@AEZ[]^_`aelxz{|}~\n\"\\"))) (R.ok ([] : List D))) = R.ok (.int 45) := by
      rw [consR_ok]
      show R.of (gLen [_]) = _
      rw [vLenS (by rw [sgn_len]; omega), sgn_len]
      rfl
    rw [el]
    exact sS_sign (by rw [sgn_len]; omega) (sI_mod (sI_div it (by omega) (by omega)) (by omega)) fun i hi => by rw [sgn_len]; exact hi
  rintro w4 ⟨x, rfl, hx⟩
  rw [immR_ok rfl, bnd_ok]
  exact sat_ok.mpr ⟨x, rfl, by omega⟩
def Ws (m n : Nat) : D → Prop := LstP (StrN 401) m n
theorem sW {x : Str} (h : x.length ≤ 401) : (R.ok (D.str x)).sat (StrN 401) := sS_ok h
theorem odd_ok (c : Int) : (p_law_odd [.int c]).sat fun r => ∃ x : Str, r = (.str x, []) ∧ x.length ≤ 401 := by
  unfold p_law_odd
  rw [noexF_eq, ar1_eq, sat_noex]
  refine sB_ite (tEqM (by omega)) ?_ ?_
  · have : op2 fDiv (R.ok (D.int c)) (R.ok (D.int 2)) = R.ok (.int (c / 2)) := by walk_at "fl"
    rw [this, consR_ok, callP_ok]
    obtain ⟨_, e, x, rfl, hx⟩ := drawn_ok (c / 2)
    rw [e]
    exact sat_ok.mpr ⟨x, rfl, hx⟩
  · refine sat_seq (P := Ws 4 4) (sL_lst (row_cons (sW (by decide)) (row_cons (sW (by decide)) (row_cons (sW (by decide)) (row_cons (sW (by decide)) row_nil)))) (by omega)) fun s1 h1 => ?_
    refine sat_seq (P := Ws 17 17) (sL_lf (sL_cat (sat_ok.mpr h1) (sL_lst (n := 13) (row_cons (sW (by decide)) (row_cons (sW (by decide)) (row_cons (sW (by decide)) (row_cons (sW (by decide)) (row_cons (sW (by decide)) (row_cons (sW (by decide)) (row_cons (sW (by decide)) (row_cons (sW (by decide)) (row_cons (sW (by decide)) (row_cons (sW (by decide)) (row_cons (sW (by decide)) (row_cons (sW (by decide)) (row_cons (sW (by decide)) row_nil))))))))))))) (by omega)) (by omega))) fun s2 h2 => ?_
    refine sat_seq (P := Ws 21 21) (sL_lf (sL_cat (sat_ok.mpr h2) (sL_lst (n := 4) (row_cons (sW (by decide)) (row_cons (sW (by decide)) (row_cons (sW (by decide)) (row_cons (sW (by decide)) row_nil)))) (by omega)) (by omega))) fun s3 h3 => ?_
    refine sat_seq (P := Ws 31 31) (sL_lf (sL_cat (sat_ok.mpr h3) (sL_lst (n := 10) (row_cons ?_ (row_cons ?_ (row_cons (sW (by decide +kernel)) (row_cons (sW (by decide)) (row_cons (sW (by decide)) (row_cons (sW (by decide)) (row_cons (sW (by decide +kernel)) (row_cons (sW (by decide)) (row_cons (sW (by decide)) (row_cons (sW (by decide)) row_nil)))))))))) (by omega)) (by omega))) fun s4 h4 => ?_
    · exact R.sat.mono (sS_rep (k := 61) (n := 1) (m := 61) (sS_ok (by decide)) (sI_ok (i := 61) (P := fun i => i = 61) rfl) (fun i hi => by omega) (by omega) (by omega) (by omega)) fun d h => h.le (by omega)
    · exact R.sat.mono (sS_cat (n := 1) (m := 61) (k := 62) (sS_ok (by decide)) (sS_rep (k := 61) (n := 1) (m := 61) (sS_ok (by decide)) (sI_ok (i := 61) (P := fun i => i = 61) rfl) (fun i hi => by omega) (by omega) (by omega) (by omega)) (by omega) (by omega)) fun d h => h.le (by omega)
    refine sat_seq (P := Ws 33 33) (sL_lf (sL_cat (sat_ok.mpr h4) (sL_lst (n := 2) (row_cons (sW (by decide)) (row_cons (sW (by decide)) row_nil)) (by omega)) (by omega))) ?_
    rintro _ ⟨l, rfl, q1, q2, q3⟩
    have g1 := Int.emod_nonneg (c / 2) (show (l.length : Int) ≠ 0 by omega)
    have g2 := Int.emod_lt_of_pos (c / 2) (show (0 : Int) < l.length by omega)
    refine sat_seq (P := StrN 401) (sS_imm (sL_ix (m := 33) (n := 33) (sat_ok.mpr ⟨l, rfl, q1, q2, q3⟩) (Pi := fun i => 0 ≤ i ∧ i < 33) ?_ fun i h => h)) ?_
    · walk_at "fl"
      exact ⟨_, rfl, by omega⟩
    · rintro _ ⟨x, rfl, hx⟩
      exact sat_ok.mpr ⟨x, rfl, hx⟩
theorem ret_ws {m : R D} {a b : Nat} (h : m.sat (Ws a b)) (hb : b ≤ 100) : (m.bnd fun d => R.ok (d, ([] : List D))).sat fun r => ∃ l, r = (.lst l, []) ∧ (∀ x ∈ l, StrN 401 x) ∧ l.length ≤ 100 := by
  obtain ⟨_, rfl, l, rfl, h1, h2, h3⟩ := h
  exact sat_ok.mpr ⟨l, rfl, h1, by omega⟩
theorem spoiled_ok {ws : List D} (hw : ∀ x ∈ ws, StrN 401 x) (h1 : 1 ≤ ws.length) (h2 : ws.length ≤ 40) (c : Int) : (p_law_spoiled [.lst ws, .int c]).sat fun r => ∃ l, r = (.lst l, []) ∧ (∀ x ∈ l, StrN 401 x) ∧ l.length ≤ 100 := by
  have lw : (R.ok (D.lst ws)).sat (Ws 1 40) := sat_ok.mpr ⟨ws, rfl, hw, h1, h2⟩
  unfold p_law_spoiled
  rw [noexF_eq, ar2_eq, sat_noex, sI_lenL]
  have ic : (R.ok (D.int c)).sat (IntP fun _ => True) := sI_ok trivial
  refine sat_seq (P := IntP fun i => 0 ≤ i ∧ i < 12) (sI_mod ic (by omega)) ?_
  rintro _ ⟨way, rfl, hway⟩
  refine sat_seq (P := IntP fun _ => True) (sI_div ic (by omega) (by omega)) ?_
  rintro _ ⟨r, rfl, _⟩
  have ir : (R.ok (D.int r)).sat (IntP fun _ => True) := sI_ok trivial
  refine sat_seq (P := IntP fun i => 0 ≤ i ∧ i < ws.length) (sI_mod ir (by omega)) ?_
  rintro _ ⟨a, rfl, ha⟩
  have ia : (R.ok (D.int a)).sat (IntP fun i => 0 ≤ i ∧ i < ws.length) := sI_ok ha
  have ia1 : (op2 fAdd (R.ok (D.int a)) (R.ok (D.int 1))).sat (IntP fun _ => True) := by walk_at "fl"; exact ⟨_, rfl, trivial⟩
  refine sat_seq (P := IntP fun _ => True) (sI_div ir (by omega) (by omega)) ?_
  rintro _ ⟨m, rfl, _⟩
  have im : (R.ok (D.int m)).sat (IntP fun _ => True) := sI_ok trivial
  have tq : ∀ k : Int, ∃ b, tR (op2 fEq (R.ok (D.int way)) (R.ok (D.int k))) = R.ok b := fun k => ⟨_, by walk_at "fl"; rfl⟩
  have cutA := sL_cut (m := 1) (n := 40) lw sO_none (sO_some ia)
  have cutB := sL_cut (m := 1) (n := 40) lw (sO_some ia) sO_none
  have cutC := sL_cut (m := 1) (n := 40) lw (sO_some ia1) sO_none
  have at1 : (immR (op2 ixD (R.ok (D.lst ws)) (R.ok (D.int a)))).sat (StrN 401) := by
    refine sS_imm ?_
    rw [op2_ok, vIxL ha.1 ha.2, of_some]
    exact sat_ok.mpr (hw _ (getD_mem (by omega)))
  have one : ∀ {x : R D}, x.sat (StrN 401) → (lstR (consR x (R.ok ([] : List D)))).sat (Ws 1 1) := fun h => sL_lst (row_cons h row_nil) (by omega)
  have four : ∀ {x y z w : Str}, x.length ≤ 401 → y.length ≤ 401 → z.length ≤ 401 → w.length ≤ 401 → (immR (op2 ixD (lstR (consR (R.ok (D.str x)) (consR (R.ok (D.str y)) (consR (R.ok (D.str z)) (consR (R.ok (D.str w)) (R.ok ([] : List D))))))) (op2 fMod (R.ok (D.int m)) (R.ok (D.int 4))))).sat (StrN 401) := fun a b c d =>
    sS_imm (sL_ix (m := 4) (n := 4) (sL_lst (row_cons (sW a) (row_cons (sW b) (row_cons (sW c) (row_cons (sW d) row_nil)))) (by omega)) (sI_mod im (by omega)) fun i h => h)
  have len3 : ∀ {a b : R D} {m n m' n' : Nat}, a.sat (Ws m n) → b.sat (Ws m' n') → n + n' ≤ 100 → (op2 catD a b).sat (Ws 0 (n + n')) := fun ha hb h => R.sat.mono (sL_cat ha hb (by omega)) fun d hd => hd.mono (fun _ h => h) (by omega) (by omega)
  have fin : ∀ {m : R D} {a b : Nat}, m.sat (Ws a b) → b ≤ 100 → ((lfR m).bnd fun d => R.ok (d, ([] : List D))).sat fun r => ∃ l, r = (.lst l, []) ∧ (∀ x ∈ l, StrN 401 x) ∧ l.length ≤ 100 := fun h hb => ret_ws (sL_lf h) hb
  refine sB_ite (tq 0) (fin (len3 cutA cutC (by omega)) (by omega)) ?_
  refine sB_ite (tq 1) (fin (len3 (len3 cutA (one at1) (by omega)) cutB (by omega)) (by omega)) ?_
  refine sB_ite (tq 2) (fin (len3 (one (four (by decide) (by decide) (by decide) (by decide))) lw (by omega)) (by omega)) ?_
  refine sB_ite (tq 3) (fin (len3 lw (one (four (by decide) (by decide) (by decide) (by decide))) (by omega)) (by omega)) ?_
  refine sB_ite ⟨_, by walk_at "fl"; rfl⟩ (fin (len3 (len3 cutA (one ?_) (by omega)) cutC (by omega)) (by omega)) ?_
  · rw [consR_ok, callP_ok]
    obtain ⟨_, e, x, rfl, hx⟩ := odd_ok m
    rw [e]
    exact sat_ok.mpr ⟨x, rfl, hx⟩
  refine sB_ite (tq 7) (fin (len3 (len3 cutA (one ?_) (by omega)) cutC (by omega)) (by omega)) ?_
  · exact sS_imm (sL_ix (m := 5) (n := 5) (sL_lst (row_cons (sW (by decide)) (row_cons (sW (by decide)) (row_cons (sW (by decide)) (row_cons (sW (by decide)) (row_cons (sW (by decide)) row_nil))))) (by omega)) (sI_mod im (by omega)) fun i h => h)
  refine sB_ite (tq 8) (fin (len3 cutB cutA (by omega)) (by omega)) ?_
  refine sB_ite (tq 9) (fin (len3 (len3 cutA (one (sW (by decide))) (by omega)) cutB (by omega)) (by omega)) ?_
  refine sB_ite (tq 10) (fin (len3 lw (one (sW (by decide))) (by omega)) (by omega)) ?_
  exact ret_ws (sL_lst row_nil (by omega)) (by omega)
theorem words_ok (cs : List Int) (n most : Int) (h0 : 0 ≤ n) (h1 : n ≤ 1000) (h2 : 1 ≤ most) (h3 : most ≤ 40) : (p_law_words [deckD cs n, .int most]).sat fun r => ∃ (ds : List D) (n' : Int), r = (.lst ds, [deckD cs n']) ∧ (∀ x ∈ ds, StrN 401 x) ∧ 1 ≤ ds.length ∧ ds.length ≤ 40 ∧ 0 ≤ n' ∧ n' ≤ n + 40 := by
  unfold p_law_words
  walk_at "fl"
  refine sat_whileN (fun m t => ∃ (ds : List D) (k : Nat), t = (deckD cs (n + ds.length), .lst ds, .int k) ∧ (∀ x ∈ ds, StrN 401 x) ∧ 1 ≤ ds.length + k ∧ ds.length + k ≤ 40 ∧ (ds.length : Int) + k ≤ most ∧ m = 40 - ds.length) ?_ 40 _ ⟨[], 1, by simp, (fun x hx => by cases hx), by simp, by simp, by simp; omega, by simp⟩
  rintro m t ⟨ds, k, rfl, hs, ht, hl, hm, rfl⟩
  walk_at "fl"
  have fin : ∀ (z : D) (k' : Nat), StrN 401 z → 0 < k → (k' : Int) + ds.length + 1 ≤ most → ∃ m', m' < 40 - ds.length ∧ ∃ (ds' : List D) (k'' : Nat), (deckD cs (n + ds.length + 1), D.lst (ds ++ [z]), D.int k') = (deckD cs (n + ds'.length), .lst ds', .int k'') ∧ (∀ x ∈ ds', StrN 401 x) ∧ 1 ≤ ds'.length + k'' ∧ ds'.length + k'' ≤ 40 ∧ (ds'.length : Int) + k'' ≤ most ∧ m' = 40 - ds'.length := by
    intro z k' hz hk hb
    refine ⟨40 - (ds.length + 1), by omega, ds ++ [z], k', ?_, ?_, ?_, ?_, ?_, ?_⟩
    · rw [List.length_append, List.length_singleton]
      congr 2
      omega
    · intro x hx
      rcases List.mem_append.mp hx with hx | hx
      · exact hs x hx
      · rw [List.mem_singleton.mp hx]; exact hz
    · simp; omega
    · simp; omega
    · simp; omega
    · simp
  split
  · rename_i hdue
    rw [okP_iff] at hdue
    refine (next_ok cs (n + ds.length) (by omega) (by omega)).mono ?_
    rintro _ ⟨v, rfl⟩
    walk_at "fl"
    split
    · rename_i h
      rw [Bool.and_eq_true, okP_iff, okP_iff] at h
      have hz := getD_all (P := fun z => StrN 401 z ∧ z.imm = true) (l := [D.str (Str.ofString "add"), D.str (Str.ofString "sub"), D.str (Str.ofString "mul"), D.str (Str.ofString "mul")]) (fun x hx => by
        simp only [List.mem_cons, List.not_mem_nil, or_false] at hx
        rcases hx with rfl | rfl | rfl | rfl <;> exact ⟨⟨_, rfl, by decide⟩, rfl⟩) (n := (v % 8).toNat) (by simp only [List.length_cons, List.length_nil]; omega)
      walk_at "fl"
      have := fin _ (k + 1) hz.1 (by omega) (by omega)
      rw [show ((k + 1 : Nat) : Int) = (k : Int) - 1 + 2 by omega] at this
      exact this
    · rename_i h
      walk_at "fl"
      split
      · rename_i h2
        rw [Bool.and_eq_true, okP_iff, okP_iff] at h2
        walk_at "fl"
        have := fin (.str (Str.ofString "neg")) k ⟨_, rfl, by decide⟩ (by omega) (by omega)
        rw [show (k : Int) = (k : Int) - 1 + 1 by omega] at this
        exact this
      · walk_at "fl"
        split
        · obtain ⟨i, ei, hi⟩ := getD_int (P := fun i => i.natAbs < 10 ^ 60) (l := [v / 8 % 12, v / 8 % 1000000000000000000000000000000000000000000000000000000000000, -(v / 8 % 1000000000000000000000000000000000000000000000000000000000000)]) (fun x hx => by
            simp only [List.mem_cons, List.not_mem_nil, or_false] at hx
            rcases hx with rfl | rfl | rfl <;> omega) (n := (v / 8 % 3).toNat) (by simp only [List.length_cons, List.length_nil]; omega)
          simp only [List.map_cons, List.map_nil] at ei
          have hg : gStr [.int i] = some (.str (numT i)) := if_pos (okT (log_small hi))
          rw [ei, hg]
          walk_at "fl"
          have := fin (.str (numT i)) (k - 1) ⟨_, rfl, by have := numT_len hi; omega⟩ (by omega) (by omega)
          rw [show ((k - 1 : Nat) : Int) = (k : Int) - 1 by omega] at this
          exact this
        · have hz := getD_all (P := fun z => StrN 401 z ∧ z.imm = true) (l := [D.str (Str.ofString "a"), D.str (Str.ofString "b"), D.str (Str.ofString "ab"), D.str (Str.ofString "kind"), D.str (Str.ofString "addd"), D.str (Str.ofString "ad"), D.str (Str.ofString "rule"), D.str (Str.ofString "abcdefgh")]) (fun x hx => by
            simp only [List.mem_cons, List.not_mem_nil, or_false] at hx
            rcases hx with rfl | rfl | rfl | rfl | rfl | rfl | rfl | rfl <;> exact ⟨⟨_, rfl, by decide⟩, rfl⟩) (n := (v / 8 % 8).toNat) (by simp only [List.length_cons, List.length_nil]; omega)
          walk_at "fl"
          have := fin _ (k - 1) hz.1 (by omega) (by omega)
          rw [show ((k - 1 : Nat) : Int) = (k : Int) - 1 by omega] at this
          exact this
  · rename_i hdue
    rw [okP_iff] at hdue
    have hk0 : k = 0 := by omega
    subst hk0
    exact ⟨ds, n + ds.length, rfl, hs, by omega, by omega, by omega, by omega⟩
def kB (words : D) : D → D → R (Step D (D × List D)) := (fun x l_deck_7 => (R.ok x).bnd fun k_3 =>
    (bnd2 (callX p_law_next (consV (fun t8 => l_deck_7) (pR (R.ok ([] : List D))))) fun cell_3 t9 =>
    (R.bnd (callP p_law_spoiled (consR (R.ok words) (consR (R.ok cell_3) (R.ok ([] : List D))))) fun spoiled_3 =>
    (iteR (orT (notT (tR (callP p_law_right (consR (op2 joinD (R.ok (D.str (Str.ofString " "))) (R.ok spoiled_3)) (R.ok ([] : List D)))))) (notT (tR (callP p_law_right (consR (op2 joinD (R.ok (D.str (Str.ofString " "))) (R.ok words)) (R.ok ([] : List D)))))))
    ((R.ok (D.bl false)).bnd fun d => R.ok (Step.rt (d, [])))
    (iteR (notT (tR (callP p_law_right (consR (op2 (jrepD " " " " "\n") (R.ok words) (op2 fAdd (R.ok (D.int 1)) (op2 fMod (R.ok cell_3) (R.ok (D.int 3))))) (R.ok ([] : List D))))))
    ((R.ok (D.bl false)).bnd fun d => R.ok (Step.rt (d, [])))
    (iteR (orT (notT (tR (callP p_law_right (consR (op2 fCat (R.ok (D.str (Str.ofString " "))) (op2 joinD (R.ok (D.str (Str.ofString " "))) (R.ok words))) (R.ok ([] : List D)))))) (notT (tR (callP p_law_right (consR (op2 joinD (R.ok (D.str (Str.ofString " "))) (op2 catD (callP p_law_spoiled (consR (R.ok words) (consR (op2 fDiv (R.ok cell_3) (R.ok (D.int 7))) (R.ok ([] : List D))))) (R.ok words))) (R.ok ([] : List D)))))))
    ((R.ok (D.bl false)).bnd fun d => R.ok (Step.rt (d, [])))
    (R.ok (Step.nx (t9.2.getD 0 .non)))))))))
def q_law : List D → R (D × List D) := noexF (ar1 fun script =>
    (R.bnd (lstR (consR (lfR (un1 listD (slR (R.ok script) (R.ok (none : Option Int)) (oSo (R.ok (D.int 60)))))) (consR (R.ok (D.int 0)) (R.ok ([] : List D))))) fun deck =>
    (bnd2 (callX p_law_words (consV (fun t5 => (t5.1.2.1.2.getD 0 .non)) (consX (opX fAdd (pR (R.ok (D.int 1))) (fun t1 => (opX fMod (callX p_law_next (consV (fun t2 => deck) (pR (R.ok ([] : List D))))) (fun t3 => (pR (R.ok (D.int 40))))))) (fun t4 => (pR (R.ok ([] : List D))))))) fun words t6 =>
    (iteR (notT (tR (callP p_law_right (consR (op2 joinD (R.ok (D.str (Str.ofString " "))) (R.ok words)) (R.ok ([] : List D))))))
    ((R.ok (D.bl false)).bnd fun d => R.ok (d, []))
    (thenS ((itA rngR (consR (R.ok (D.int 8)) (R.ok ([] : List D)))).bnd fun xs => forS (kB words) xs (t6.2.getD 0 .non)) fun e_deck_10 =>
    ((andR (callP p_law_right (consR (R.ok (D.str (Str.ofString ""))) (R.ok ([] : List D)))) (andR (callP p_law_right (consR (R.ok (D.str (Str.ofString " "))) (R.ok ([] : List D)))) (andR (callP p_law_right (consR (R.ok (D.str (Str.ofString "neg"))) (R.ok ([] : List D)))) (callP p_law_right (consR (R.ok (D.str (Str.ofString "add 1"))) (R.ok ([] : List D))))))).bnd fun d => R.ok (d, [])))))))
theorem q_law_eq : p_law = q_law := rfl
theorem join_ok {ds : List D} (h : ∀ x ∈ ds, StrN 401 x) (hl : ds.length ≤ 150) : ∃ y : Str, joinD (.str (Str.ofString " ")) (.lst ds) = some (.str y) ∧ y.length ≤ 100000 := by
  obtain ⟨xs, rfl, hx⟩ := strs_of h
  rw [List.length_map] at hl
  have h1 := sum_len hx
  have h2 : xs.length * 401 ≤ 150 * 401 := Nat.mul_le_mul_right _ hl
  have hs : (Str.ofString " ").length = 1 := sp_len
  refine ⟨_, vJoin (y := Str.ofString " ") (l := xs) (by rw [hs]; omega), ?_⟩
  have := join_le (Str.ofString " ") xs
  rw [hs] at this
  omega
theorem rightS {y : Str} (h : y.length ≤ 1000000) : callP p_law_right (consR (R.ok (.str y)) (R.ok ([] : List D))) = R.ok (.bl true) := by
  rw [consR_ok, callP_ok, right_ok h]
  rfl
theorem rightJ {ds : List D} (h : ∀ x ∈ ds, StrN 401 x) (hl : ds.length ≤ 150) : callP p_law_right (consR (op2 joinD (R.ok (D.str (Str.ofString " "))) (R.ok (.lst ds))) (R.ok ([] : List D))) = R.ok (.bl true) := by
  obtain ⟨y, e, hy⟩ := join_ok h hl
  rw [op2_ok, e, of_some]
  exact rightS (by omega)
theorem spoil {ws : List D} (hw : ∀ x ∈ ws, StrN 401 x) (h1 : 1 ≤ ws.length) (h2 : ws.length ≤ 40) (c : Int) : ∃ l, callP p_law_spoiled (R.ok [.lst ws, .int c]) = R.ok (.lst l) ∧ (∀ x ∈ l, StrN 401 x) ∧ l.length ≤ 100 := by
  obtain ⟨_, e, l, rfl, q1, q2⟩ := spoiled_ok hw h1 h2 c
  refine ⟨l, ?_, q1, q2⟩
  rw [callP_ok, e]
  rfl
theorem kB_ok (cs : List Int) {ws : List D} (hw : ∀ x ∈ ws, StrN 401 x) (h1 : 1 ≤ ws.length) (h2 : ws.length ≤ 40) (x : D) (n : Int) (h0 : 0 ≤ n) (hn : n ≤ 900) : kB (.lst ws) x (deckD cs n) = R.ok (Step.nx (deckD cs (n + 1))) := by
  obtain ⟨_, e1, c, rfl⟩ := next_ok cs n h0 (by omega)
  obtain ⟨l, e2, q1, q2⟩ := spoil hw h1 h2 c
  obtain ⟨l7, e3, g1, g2⟩ := spoil hw h1 h2 (c / 7)
  obtain ⟨y, ey, hy⟩ := join_ok hw (by omega)
  have ed : op2 fDiv (R.ok (D.int c)) (R.ok (D.int 7)) = R.ok (.int (c / 7)) := by walk_at "fl"
  have ea : op2 fAdd (R.ok (D.int 1)) (op2 fMod (R.ok (D.int c)) (R.ok (D.int 3))) = R.ok (.int (1 + c % 3)) := by walk_at "fl"
  have er : ∃ z : Str, jrepD " " " " "\n" (.lst ws) (.int (1 + c % 3)) = some (.str z) ∧ z.length ≤ 1000000 := by
    obtain ⟨xs, rfl, hx⟩ := strs_of hw
    rw [List.length_map] at h2
    have s1 := sum_len hx
    have s2 : xs.length * 401 ≤ 40 * 401 := Nat.mul_le_mul_right _ h2
    have hs : (Str.ofString " ").length = 1 := sp_len
    have hz : (Str.ofString "\n").length = 1 := by decide +kernel
    refine ⟨_, vJRep (by rw [hs]; omega) (by omega) (by omega) (by rw [hz]; omega), ?_⟩
    have r1 := replN_len (Str.join (Str.ofString " ") xs) (Str.ofString " ") (Str.ofString "\n") (1 + c % 3)
    have r2 := StrLaws.occ_length_le (Str.join (Str.ofString " ") xs) (Str.ofString " ") 0 (Str.join (Str.ofString " ") xs).length (1 + c % 3).toNat
    have r3 := join_le (Str.ofString " ") xs
    rw [hz] at r1
    rw [hs] at r3
    omega
  obtain ⟨z, ez, hz⟩ := er
  have ec : op2 fCat (R.ok (D.str (Str.ofString " "))) (op2 joinD (R.ok (D.str (Str.ofString " "))) (R.ok (.lst ws))) = R.ok (.str (Str.ofString " " ++ y)) := by
    have hs : (Str.ofString " ").length = 1 := sp_len
    rw [op2_ok, ey, of_some, op2_ok, vCat (by rw [hs]; omega), of_some]
  have hcl : (Str.ofString " " ++ y).length ≤ 1000000 := by
    have hs : (Str.ofString " ").length = 1 := sp_len
    rw [app_len, hs]
    omega
  have el : op2 catD (R.ok (.lst l7)) (R.ok (.lst ws)) = R.ok (.lst (l7 ++ ws)) := by rw [op2_ok, vCatL (by omega), of_some]
  have hj : ∀ x ∈ l7 ++ ws, StrN 401 x := fun x hx => by
    rcases List.mem_append.mp hx with hx | hx
    · exact g1 x hx
    · exact hw x hx
  have en : callX p_law_next (consV (fun t8 => deckD cs n) (pR (R.ok ([] : List D)))) = R.ok (.int c, (), [deckD cs (n + 1)]) := by
    walk_at "fl"
    rw [e1]
    walk_at "fl"
  have ez' : op2 (jrepD " " " " "\n") (R.ok (.lst ws)) (R.ok (.int (1 + c % 3))) = R.ok (.str z) := by rw [op2_ok, ez, of_some]
  unfold kB
  rw [bnd_ok, en, bnd2_ok]
  rw [consR_ok, consR_ok, e2, bnd_ok, rightJ q1 (by omega), rightJ hw (by omega), ea, ez', rightS hz, ec, rightS hcl, ed, consR_ok, consR_ok, e3, el, rightJ hj (by rw [List.length_append]; omega)]
  rfl
theorem law_ok2 (ns : List Int) (hn : ns.length ≤ 63) (hbits : ∀ z ∈ ns, Bt 1048576 z) : (p_law [.rol (ns.map D.int)]).sat fun r => r.1 = .bl true := by
  obtain ⟨cs, hcs, hcl, _⟩ := cutD_map D.int ns none (some 60)
  obtain ⟨_, n1, z1, rfl⟩ := next_ok cs 0 (by omega) (by omega)
  obtain ⟨_, n2, ws, n, rfl, hw, h1, h2, h3, h4⟩ := words_ok cs (0 + 1) (1 + z1 % 40) (by omega) (by omega) (by omega) (by omega)
  have e0 : lstR (consR (lfR (un1 listD (slR (R.ok (.rol (ns.map D.int))) (R.ok (none : Option Int)) (oSo (R.ok (D.int 60)))))) (consR (R.ok (D.int 0)) (R.ok ([] : List D)))) = R.ok (deckD cs 0) := by
    walk_at "fl"
    rw [hcs]
    rfl
  have eloop : forS (kB (.lst ws)) (rngD 0 8) (deckD cs n) = R.ok (Step.nx (deckD cs (n + (8 : Nat)))) := by
    have key : ∀ (xs : List D) (m : Int), 0 ≤ m → m + xs.length ≤ 900 → forS (kB (.lst ws)) xs (deckD cs m) = R.ok (Step.nx (deckD cs (m + xs.length))) := by
      intro xs
      induction xs with
      | nil => intro m _ _; rw [forS_nil]; simp
      | cons x xs ih =>
        intro m hm hm2
        rw [List.length_cons] at hm2
        rw [forS_cons, kB_ok cs hw h1 h2 x m hm (by omega), bnd_ok]
        show forS _ xs _ = _
        rw [ih (m + 1) (by omega) (by omega), List.length_cons]
        congr 3
        omega
    have := key (rngD 0 8) n (by omega) (by show n + 8 ≤ 900; omega)
    exact this
  have r0 := rightS (y := Str.ofString "") (by decide)
  have r1 := rightS (y := Str.ofString " ") (by decide)
  have r2 := rightS (y := Str.ofString "neg") (by decide)
  have r3 := rightS (y := Str.ofString "add 1") (by decide)
  have rj := rightJ hw (by omega)
  rw [q_law_eq]
  unfold q_law
  rw [noexF_eq, ar1_eq, e0, bnd_ok, r0, r1, r2, r3]
  walk_at "fl"
  simp only [n1]
  walk_at "fl"
  simp only [n2]
  walk_at "fl"
  rw [op2_ok] at rj
  rw [rj, tR_ok, notT_ok, sat_ok, if_neg (by decide), eloop, thenS_nx]
  exact sat_ok.mpr rfl
theorem law_ok : ∀ ns : List Int, ns.length ≤ 63 → (∀ z ∈ ns, Bt 1048576 z) → ∃ us, G_law [.rol (ns.map D.int)] = .ok (.bl true) us := law_ofB F_law law_ok2
theorem all_mk {l : PySem.W.OpenLaw} {w : World} {K : PySem.W.Frag} {h : Heap} {mg : Str → Option Value} {fa : Addr} (X : K.In h) (G : h.Ns mainGlobals mg) (hfa : mg "law" = some (.ref fa))
    {f0 : Addr} {od0 an0 : Option Addr} {sl0 : Array (Option Value)} {oc0 kV0 dc0 pm0 cd0 ct0 : Value} (a0 : PySem.W.nsIn K mainGlobals "is_name" = some (some (.ref f0))) (l0 : K.lookup f0 = some ⟨oc0, od0, .func (PySem.W.fnOf "is_name" "is_name" (defArgs s_is_name) (defBody s_is_name) (defScope s_is_name) .none kV0 dc0 pm0 an0 cd0 ct0), sl0⟩) (c0 : PySem.W.codeIn K cd0 "is_name" = true) (k0 : PySem.W.keepIn K (.ref f0) = true)
    {f1 : Addr} {od1 an1 : Option Addr} {sl1 : Array (Option Value)} {oc1 kV1 dc1 pm1 cd1 ct1 : Value} (a1 : PySem.W.nsIn K mainGlobals "is_number" = some (some (.ref f1))) (l1 : K.lookup f1 = some ⟨oc1, od1, .func (PySem.W.fnOf "is_number" "is_number" (defArgs s_is_number) (defBody s_is_number) (defScope s_is_number) .none kV1 dc1 pm1 an1 cd1 ct1), sl1⟩) (c1 : PySem.W.codeIn K cd1 "is_number" = true) (k1 : PySem.W.keepIn K (.ref f1) = true)
    {f2 : Addr} {od2 an2 : Option Addr} {sl2 : Array (Option Value)} {oc2 kV2 dc2 pm2 cd2 ct2 : Value} (a2 : PySem.W.nsIn K mainGlobals "wanted_by" = some (some (.ref f2))) (l2 : K.lookup f2 = some ⟨oc2, od2, .func (PySem.W.fnOf "wanted_by" "wanted_by" (defArgs s_wanted_by) (defBody s_wanted_by) (defScope s_wanted_by) .none kV2 dc2 pm2 an2 cd2 ct2), sl2⟩) (c2 : PySem.W.codeIn K cd2 "wanted_by" = true) (k2 : PySem.W.keepIn K (.ref f2) = true)
    {f3 : Addr} {od3 an3 : Option Addr} {sl3 : Array (Option Value)} {oc3 kV3 dc3 pm3 cd3 ct3 : Value} (a3 : PySem.W.nsIn K mainGlobals "_law_next" = some (some (.ref f3))) (l3 : K.lookup f3 = some ⟨oc3, od3, .func (PySem.W.fnOf "_law_next" "_law_next" (defArgs s_law_next) (defBody s_law_next) (defScope s_law_next) .none kV3 dc3 pm3 an3 cd3 ct3), sl3⟩) (c3 : PySem.W.codeIn K cd3 "_law_next" = true) (k3 : PySem.W.keepIn K (.ref f3) = true)
    {f4 : Addr} {od4 an4 : Option Addr} {sl4 : Array (Option Value)} {oc4 kV4 dc4 pm4 cd4 ct4 : Value} (a4 : PySem.W.nsIn K mainGlobals "_law_drawn" = some (some (.ref f4))) (l4 : K.lookup f4 = some ⟨oc4, od4, .func (PySem.W.fnOf "_law_drawn" "_law_drawn" (defArgs s_law_drawn) (defBody s_law_drawn) (defScope s_law_drawn) .none kV4 dc4 pm4 an4 cd4 ct4), sl4⟩) (c4 : PySem.W.codeIn K cd4 "_law_drawn" = true) (k4 : PySem.W.keepIn K (.ref f4) = true)
    {f5 : Addr} {od5 an5 : Option Addr} {sl5 : Array (Option Value)} {oc5 kV5 dc5 pm5 cd5 ct5 : Value} (a5 : PySem.W.nsIn K mainGlobals "_law_good_word" = some (some (.ref f5))) (l5 : K.lookup f5 = some ⟨oc5, od5, .func (PySem.W.fnOf "_law_good_word" "_law_good_word" (defArgs s_law_good_word) (defBody s_law_good_word) (defScope s_law_good_word) .none kV5 dc5 pm5 an5 cd5 ct5), sl5⟩) (c5 : PySem.W.codeIn K cd5 "_law_good_word" = true) (k5 : PySem.W.keepIn K (.ref f5) = true)
    {f6 : Addr} {od6 an6 : Option Addr} {sl6 : Array (Option Value)} {oc6 kV6 dc6 pm6 cd6 ct6 : Value} (a6 : PySem.W.nsIn K mainGlobals "word_of" = some (some (.ref f6))) (l6 : K.lookup f6 = some ⟨oc6, od6, .func (PySem.W.fnOf "word_of" "word_of" (defArgs s_word_of) (defBody s_word_of) (defScope s_word_of) .none kV6 dc6 pm6 an6 cd6 ct6), sl6⟩) (c6 : PySem.W.codeIn K cd6 "word_of" = true) (k6 : PySem.W.keepIn K (.ref f6) = true)
    {f7 : Addr} {od7 an7 : Option Addr} {sl7 : Array (Option Value)} {oc7 kV7 dc7 pm7 cd7 ct7 : Value} (a7 : PySem.W.nsIn K mainGlobals "is_one" = some (some (.ref f7))) (l7 : K.lookup f7 = some ⟨oc7, od7, .func (PySem.W.fnOf "is_one" "is_one" (defArgs s_is_one) (defBody s_is_one) (defScope s_is_one) .none kV7 dc7 pm7 an7 cd7 ct7), sl7⟩) (c7 : PySem.W.codeIn K cd7 "is_one" = true) (k7 : PySem.W.keepIn K (.ref f7) = true)
    {f8 : Addr} {od8 an8 : Option Addr} {sl8 : Array (Option Value)} {oc8 kV8 dc8 pm8 cd8 ct8 : Value} (a8 : PySem.W.nsIn K mainGlobals "_law_words" = some (some (.ref f8))) (l8 : K.lookup f8 = some ⟨oc8, od8, .func (PySem.W.fnOf "_law_words" "_law_words" (defArgs s_law_words) (defBody s_law_words) (defScope s_law_words) .none kV8 dc8 pm8 an8 cd8 ct8), sl8⟩) (c8 : PySem.W.codeIn K cd8 "_law_words" = true) (k8 : PySem.W.keepIn K (.ref f8) = true)
    {f9 : Addr} {od9 an9 : Option Addr} {sl9 : Array (Option Value)} {oc9 kV9 dc9 pm9 cd9 ct9 : Value} (a9 : PySem.W.nsIn K mainGlobals "_law_odd" = some (some (.ref f9))) (l9 : K.lookup f9 = some ⟨oc9, od9, .func (PySem.W.fnOf "_law_odd" "_law_odd" (defArgs s_law_odd) (defBody s_law_odd) (defScope s_law_odd) .none kV9 dc9 pm9 an9 cd9 ct9), sl9⟩) (c9 : PySem.W.codeIn K cd9 "_law_odd" = true) (k9 : PySem.W.keepIn K (.ref f9) = true)
    {f10 : Addr} {od10 an10 : Option Addr} {sl10 : Array (Option Value)} {oc10 kV10 dc10 pm10 cd10 ct10 : Value} (a10 : PySem.W.nsIn K mainGlobals "_law_good" = some (some (.ref f10))) (l10 : K.lookup f10 = some ⟨oc10, od10, .func (PySem.W.fnOf "_law_good" "_law_good" (defArgs s_law_good) (defBody s_law_good) (defScope s_law_good) .none kV10 dc10 pm10 an10 cd10 ct10), sl10⟩) (c10 : PySem.W.codeIn K cd10 "_law_good" = true) (k10 : PySem.W.keepIn K (.ref f10) = true)
    {f11 : Addr} {od11 an11 : Option Addr} {sl11 : Array (Option Value)} {oc11 kV11 dc11 pm11 cd11 ct11 : Value} (a11 : PySem.W.nsIn K mainGlobals "read_term" = some (some (.ref f11))) (l11 : K.lookup f11 = some ⟨oc11, od11, .func (PySem.W.fnOf "read_term" "read_term" (defArgs s_read_term) (defBody s_read_term) (defScope s_read_term) .none kV11 dc11 pm11 an11 cd11 ct11), sl11⟩) (c11 : PySem.W.codeIn K cd11 "read_term" = true) (k11 : PySem.W.keepIn K (.ref f11) = true)
    {f12 : Addr} {od12 an12 : Option Addr} {sl12 : Array (Option Value)} {oc12 kV12 dc12 pm12 cd12 ct12 : Value} (a12 : PySem.W.nsIn K mainGlobals "_law_spoiled" = some (some (.ref f12))) (l12 : K.lookup f12 = some ⟨oc12, od12, .func (PySem.W.fnOf "_law_spoiled" "_law_spoiled" (defArgs s_law_spoiled) (defBody s_law_spoiled) (defScope s_law_spoiled) .none kV12 dc12 pm12 an12 cd12 ct12), sl12⟩) (c12 : PySem.W.codeIn K cd12 "_law_spoiled" = true) (k12 : PySem.W.keepIn K (.ref f12) = true)
    {f13 : Addr} {od13 an13 : Option Addr} {sl13 : Array (Option Value)} {oc13 kV13 dc13 pm13 cd13 ct13 : Value} (a13 : PySem.W.nsIn K mainGlobals "_law_right" = some (some (.ref f13))) (l13 : K.lookup f13 = some ⟨oc13, od13, .func (PySem.W.fnOf "_law_right" "_law_right" (defArgs s_law_right) (defBody s_law_right) (defScope s_law_right) .none kV13 dc13 pm13 an13 cd13 ct13), sl13⟩) (c13 : PySem.W.codeIn K cd13 "_law_right" = true) (k13 : PySem.W.keepIn K (.ref f13) = true)
    {f14 : Addr} {od14 an14 : Option Addr} {sl14 : Array (Option Value)} {oc14 kV14 dc14 pm14 cd14 ct14 : Value} (a14 : PySem.W.nsIn K mainGlobals "law" = some (some (.ref f14))) (l14 : K.lookup f14 = some ⟨oc14, od14, .func (PySem.W.fnOf "law" "law" (defArgs s_law) (defBody s_law) (defScope s_law) .none kV14 dc14 pm14 an14 cd14 ct14), sl14⟩) (c14 : PySem.W.codeIn K cd14 "law" = true) (k14 : PySem.W.keepIn K (.ref f14) = true)
    (z_ValueError : PySem.W.nsIn K mainGlobals "ValueError" = some none)
    (z_all : PySem.W.nsIn K mainGlobals "all" = some none)
    (z_int : PySem.W.nsIn K mainGlobals "int" = some none)
    (z_isinstance : PySem.W.nsIn K mainGlobals "isinstance" = some none)
    (z_len : PySem.W.nsIn K mainGlobals "len" = some none)
    (z_list : PySem.W.nsIn K mainGlobals "list" = some none)
    (z_range : PySem.W.nsIn K mainGlobals "range" = some none)
    (z_str : PySem.W.nsIn K mainGlobals "str" = some none)
    (z_sum : PySem.W.nsIn K mainGlobals "sum" = some none)
    (z_tuple : PySem.W.nsIn K mainGlobals "tuple" = some none)
    {r_KEPT : Addr} {o_KEPT : Option Addr} {i_KEPT : Array Value} {n_KEPT : Nat} {s_KEPT : Array (Option Value)} (q_KEPT : PySem.W.nsIn K mainGlobals "KEPT" = some (some (.ref r_KEPT))) (p_KEPT : K.lookup r_KEPT = some ⟨.type "tuple", o_KEPT, .seq i_KEPT n_KEPT, s_KEPT⟩) (g_KEPT : i_KEPT.size ≤ 1000) {t0_KEPT t1_KEPT t2_KEPT t3_KEPT t4_KEPT t5_KEPT t6_KEPT t7_KEPT t8_KEPT : Tok} (v_KEPT : i_KEPT.toList = [.str (Str.ofString "add") t0_KEPT, .str (Str.ofString "sub") t1_KEPT, .str (Str.ofString "mul") t2_KEPT, .str (Str.ofString "neg") t3_KEPT, .str (Str.ofString "any") t4_KEPT, .str (Str.ofString "var") t5_KEPT, .str (Str.ofString "put") t6_KEPT, .str (Str.ofString "load") t7_KEPT, .str (Str.ofString "out") t8_KEPT])
    {t_LETTERS : Tok} (q_LETTERS : PySem.W.nsIn K mainGlobals "LETTERS" = some (some (.str (Str.ofString "abcdefghijklmnopqrstuvwxyz") t_LETTERS)))
    {r_PAIRS : Addr} {o_PAIRS : Option Addr} {i_PAIRS : Array Value} {n_PAIRS : Nat} {s_PAIRS : Array (Option Value)} (q_PAIRS : PySem.W.nsIn K mainGlobals "PAIRS" = some (some (.ref r_PAIRS))) (p_PAIRS : K.lookup r_PAIRS = some ⟨.type "tuple", o_PAIRS, .seq i_PAIRS n_PAIRS, s_PAIRS⟩) (g_PAIRS : i_PAIRS.size ≤ 1000) {t0_PAIRS t1_PAIRS t2_PAIRS : Tok} (v_PAIRS : i_PAIRS.toList = [.str (Str.ofString "add") t0_PAIRS, .str (Str.ofString "sub") t1_PAIRS, .str (Str.ofString "mul") t2_PAIRS])
    {C_CoverError : Addr} (e_CoverError : PySem.W.nsIn K mainGlobals "CoverError" = some (some (.ref C_CoverError)))
    {C_NoTerm : Addr} (e_NoTerm : PySem.W.nsIn K mainGlobals "NoTerm" = some (some (.ref C_NoTerm)))
    {C_NoBox : Addr} (e_NoBox : PySem.W.nsIn K mainGlobals "NoBox" = some (some (.ref C_NoBox)))
    {C_BadCover : Addr} (e_BadCover : PySem.W.nsIn K mainGlobals "BadCover" = some (some (.ref C_BadCover)))
    {C_NoCover : Addr} (e_NoCover : PySem.W.nsIn K mainGlobals "NoCover" = some (some (.ref C_NoCover)))
    {C_BadRow : Addr} (e_BadRow : PySem.W.nsIn K mainGlobals "BadRow" = some (some (.ref C_BadRow)))
    {C_NoValue : Addr} (e_NoValue : PySem.W.nsIn K mainGlobals "NoValue" = some (some (.ref C_NoValue)))
    {C_Twice : Addr} (e_Twice : PySem.W.nsIn K mainGlobals "Twice" = some (some (.ref C_Twice)))
    {C_NoName : Addr} (e_NoName : PySem.W.nsIn K mainGlobals "NoName" = some (some (.ref C_NoName)))
    {C_BadShape : Addr} (e_BadShape : PySem.W.nsIn K mainGlobals "BadShape" = some (some (.ref C_BadShape)))
    {C_BadDeed : Addr} (e_BadDeed : PySem.W.nsIn K mainGlobals "BadDeed" = some (some (.ref C_BadDeed)))
    {C_Unsound : Addr} (e_Unsound : PySem.W.nsIn K mainGlobals "Unsound" = some (some (.ref C_Unsound)))
    (tab_ : tabB K [("CoverError", C_CoverError), ("NoTerm", C_NoTerm), ("NoBox", C_NoBox), ("BadCover", C_BadCover), ("NoCover", C_NoCover), ("BadRow", C_BadRow), ("NoValue", C_NoValue), ("Twice", C_Twice), ("NoName", C_NoName), ("BadShape", C_BadShape), ("BadDeed", C_BadDeed), ("Unsound", C_Unsound)] = true)
    (cv_ : cvB K [("CoverError", C_CoverError), ("NoTerm", C_NoTerm), ("NoBox", C_NoBox), ("BadCover", C_BadCover), ("NoCover", C_NoCover), ("BadRow", C_BadRow), ("NoValue", C_NoValue), ("Twice", C_Twice), ("NoName", C_NoName), ("BadShape", C_BadShape), ("BadDeed", C_BadDeed), ("Unsound", C_Unsound)] = true)
    (pl_NoTerm : plB2 K "NoTerm" C_NoTerm = true) (px_NoTerm : PySem.W.excIn K C_NoTerm [.type "ValueError", .type "Exception", .type "BaseException", .type "object"] "ValueError.__new__" = true)
    : ∃ fd : FuncData, (∀ (s : Shared) (v : Value), BindsTo s fd ⟨[v], []⟩ [("script", v)]) ∧ ∀ base : Heap, K.In base → base.Ns mainGlobals mg → FnOk l.prog w K mg base CX0 5 fa fd ["script"] (spLawB K) := by
  have e := hfa.symm.trans (PySem.W.mg_of X G a14)
  cases e
  have F0 := fun_mk (st := s_is_name) l0 c0 k0
  have F1 := fun_mk (st := s_is_number) l1 c1 k1
  have F2 := fun_mk (st := s_wanted_by) l2 c2 k2
  have F3 := fun_mk (st := s_law_next) l3 c3 k3
  have F4 := fun_mk (st := s_law_drawn) l4 c4 k4
  have F5 := fun_mk (st := s_law_good_word) l5 c5 k5
  have F6 := fun_mk (st := s_word_of) l6 c6 k6
  have F7 := fun_mk (st := s_is_one) l7 c7 k7
  have F8 := fun_mk (st := s_law_words) l8 c8 k8
  have F9 := fun_mk (st := s_law_odd) l9 c9 k9
  have F10 := fun_mk (st := s_law_good) l10 c10 k10
  have F11 := fun_mk (st := s_read_term) l11 c11 k11
  have F12 := fun_mk (st := s_law_spoiled) l12 c12 k12
  have F13 := fun_mk (st := s_law_right) l13 c13 k13
  have F14 := fun_mk (st := s_law) l14 c14 k14
  have V_KEPT : Vals [V.str (Str.ofString "add"), V.str (Str.ofString "sub"), V.str (Str.ofString "mul"), V.str (Str.ofString "neg"), V.str (Str.ofString "any"), V.str (Str.ofString "var"), V.str (Str.ofString "put"), V.str (Str.ofString "load"), V.str (Str.ofString "out")] i_KEPT.toList := by rw [v_KEPT]; exact .cons ⟨_, rfl⟩ (.cons ⟨_, rfl⟩ (.cons ⟨_, rfl⟩ (.cons ⟨_, rfl⟩ (.cons ⟨_, rfl⟩ (.cons ⟨_, rfl⟩ (.cons ⟨_, rfl⟩ (.cons ⟨_, rfl⟩ (.cons ⟨_, rfl⟩ (.nil)))))))))
  have V_PAIRS : Vals [V.str (Str.ofString "add"), V.str (Str.ofString "sub"), V.str (Str.ofString "mul")] i_PAIRS.toList := by rw [v_PAIRS]; exact .cons ⟨_, rfl⟩ (.cons ⟨_, rfl⟩ (.cons ⟨_, rfl⟩ (.nil)))
  have T : Tx K mg := {
    ex := tab_ok X G tab_
    cv := cv_ok X G cv_
    pl_NoTerm := pl_ok2 X G pl_NoTerm px_NoTerm
    n_ValueError := PySem.W.mg_none_of X G z_ValueError
    n_all := PySem.W.mg_none_of X G z_all
    n_int := PySem.W.mg_none_of X G z_int
    n_isinstance := PySem.W.mg_none_of X G z_isinstance
    n_len := PySem.W.mg_none_of X G z_len
    n_list := PySem.W.mg_none_of X G z_list
    n_range := PySem.W.mg_none_of X G z_range
    n_str := PySem.W.mg_none_of X G z_str
    n_sum := PySem.W.mg_none_of X G z_sum
    n_tuple := PySem.W.mg_none_of X G z_tuple
    k_KEPT := glob_strs (xs := [Str.ofString "add", Str.ofString "sub", Str.ofString "mul", Str.ofString "neg", Str.ofString "any", Str.ofString "var", Str.ofString "put", Str.ofString "load", Str.ofString "out"]) (PySem.W.mg_of X G q_KEPT) p_KEPT (Nat.le_trans g_KEPT (by decide)) V_KEPT
    k_LETTERS := glob_str (PySem.W.mg_of X G q_LETTERS)
    k_PAIRS := glob_strs (xs := [Str.ofString "add", Str.ofString "sub", Str.ofString "mul"]) (PySem.W.mg_of X G q_PAIRS) p_PAIRS (Nat.le_trans g_PAIRS (by decide)) V_PAIRS
    f_is_name := ⟨_, _, F0, PySem.W.mg_of X G a0, F0.binds (ps := ["word"]) fun _ _ _ _ _ _ us hl => match us, hl with | [_], _ => rfl⟩
    f_is_number := ⟨_, _, F1, PySem.W.mg_of X G a1, F1.binds (ps := ["word"]) fun _ _ _ _ _ _ us hl => match us, hl with | [_], _ => rfl⟩
    f_wanted_by := ⟨_, _, F2, PySem.W.mg_of X G a2, F2.binds (ps := ["word"]) fun _ _ _ _ _ _ us hl => match us, hl with | [_], _ => rfl⟩
    f_law_next := ⟨_, _, F3, PySem.W.mg_of X G a3, F3.binds (ps := ["deck"]) fun _ _ _ _ _ _ us hl => match us, hl with | [_], _ => rfl⟩
    f_law_drawn := ⟨_, _, F4, PySem.W.mg_of X G a4, F4.binds (ps := ["cell"]) fun _ _ _ _ _ _ us hl => match us, hl with | [_], _ => rfl⟩
    f_law_good_word := ⟨_, _, F5, PySem.W.mg_of X G a5, F5.binds (ps := ["word"]) fun _ _ _ _ _ _ us hl => match us, hl with | [_], _ => rfl⟩
    f_word_of := ⟨_, _, F6, PySem.W.mg_of X G a6, F6.binds (ps := ["text"]) fun _ _ _ _ _ _ us hl => match us, hl with | [_], _ => rfl⟩
    f_is_one := ⟨_, _, F7, PySem.W.mg_of X G a7, F7.binds (ps := ["words"]) fun _ _ _ _ _ _ us hl => match us, hl with | [_], _ => rfl⟩
    f_law_words := ⟨_, _, F8, PySem.W.mg_of X G a8, F8.binds (ps := ["deck", "most"]) fun _ _ _ _ _ _ us hl => match us, hl with | [_, _], _ => rfl⟩
    f_law_odd := ⟨_, _, F9, PySem.W.mg_of X G a9, F9.binds (ps := ["cell"]) fun _ _ _ _ _ _ us hl => match us, hl with | [_], _ => rfl⟩
    f_law_good := ⟨_, _, F10, PySem.W.mg_of X G a10, F10.binds (ps := ["text"]) fun _ _ _ _ _ _ us hl => match us, hl with | [_], _ => rfl⟩
    f_read_term := ⟨_, _, F11, PySem.W.mg_of X G a11, F11.binds (ps := ["text"]) fun _ _ _ _ _ _ us hl => match us, hl with | [_], _ => rfl⟩
    f_law_spoiled := ⟨_, _, F12, PySem.W.mg_of X G a12, F12.binds (ps := ["words", "cell"]) fun _ _ _ _ _ _ us hl => match us, hl with | [_, _], _ => rfl⟩
    f_law_right := ⟨_, _, F13, PySem.W.mg_of X G a13, F13.binds (ps := ["text"]) fun _ _ _ _ _ _ us hl => match us, hl with | [_], _ => rfl⟩
  }
  refine ⟨PySem.W.fnOf "law" "law" (defArgs s_law) (defBody s_law) (defScope s_law) .none kV14 dc14 pm14 an14 cd14 ct14, fun s v => .of_eq rfl, fun base _ _ => ?_⟩
  have cis_name_ := r_is_name (P := l.prog) (w := w) (base := base) T
  have cis_number_ := r_is_number (P := l.prog) (w := w) (base := base) T
  have cwanted_by_ := r_wanted_by (P := l.prog) (w := w) (base := base) T
  have claw_next_ := r_law_next (P := l.prog) (w := w) (base := base) T
  have claw_drawn_ := r_law_drawn (P := l.prog) (w := w) (base := base) T
  have claw_good_word_ := r_law_good_word (P := l.prog) (w := w) (base := base) T
  have cword_of_ := r_word_of (P := l.prog) (w := w) (base := base) T cwanted_by_ cis_name_ cis_number_
  have cis_one_ := r_is_one (P := l.prog) (w := w) (base := base) T cwanted_by_
  have claw_words_ := r_law_words (P := l.prog) (w := w) (base := base) T claw_next_
  have claw_odd_ := r_law_odd (P := l.prog) (w := w) (base := base) T claw_drawn_
  have claw_good_ := r_law_good (P := l.prog) (w := w) (base := base) T claw_good_word_
  have cread_term_ := r_read_term (P := l.prog) (w := w) (base := base) T cis_one_ cword_of_
  have claw_spoiled_ := r_law_spoiled (P := l.prog) (w := w) (base := base) T claw_odd_
  have claw_right_ := r_law_right (P := l.prog) (w := w) (base := base) T claw_good_ cread_term_
  exact law_spFB (r_law F14 T claw_right_ claw_spoiled_ claw_next_ claw_words_) law_ok
end My
open PySem PySem.W PyProof.Rows
set_option maxHeartbeats 0 in
theorem PySem.Challenge.cw_pricecover_k03_no_term_holds : PySem.Challenge.rw_pricecover_k03_no_term.Holds := by
  w_on; o_law; k_head; (case hw => w_witness2)
  k_fill
  refine L2.walk_ofB (l := PySem.Challenge.rw_pricecover_k03_no_term) (n := 63) (k := 5) (x := "script") (CX := fun _ => L2.CX0) (sp := fun w => DL.spLawB _) rfl (by decide) rfl ⟨rfl, by decide, by decide⟩ (fun w h Y => PySem.W.kIn_of Y) ?F (fun _ _ a ns hl hb o hS => ⟨a, ns, rfl, DL.only_ro o hS, hl, hb, fun _ => rfl⟩) (fun _ _ _ _ _ h => h)
  case F =>
    intro w mg fa h KX G hmg
    refine' My.all_mk KX G hmg ?a0 ?l0 ?c0 ?k0 ?a1 ?l1 ?c1 ?k1 ?a2 ?l2 ?c2 ?k2 ?a3 ?l3 ?c3 ?k3 ?a4 ?l4 ?c4 ?k4 ?a5 ?l5 ?c5 ?k5 ?a6 ?l6 ?c6 ?k6 ?a7 ?l7 ?c7 ?k7 ?a8 ?l8 ?c8 ?k8 ?a9 ?l9 ?c9 ?k9 ?a10 ?l10 ?c10 ?k10 ?a11 ?l11 ?c11 ?k11 ?a12 ?l12 ?c12 ?k12 ?a13 ?l13 ?c13 ?k13 ?a14 ?l14 ?c14 ?k14 ?z_ValueError ?z_all ?z_int ?z_isinstance ?z_len ?z_list ?z_range ?z_str ?z_sum ?z_tuple ?q_KEPT ?p_KEPT ?g_KEPT ?v_KEPT ?q_LETTERS ?q_PAIRS ?p_PAIRS ?g_PAIRS ?v_PAIRS ?e_CoverError ?e_NoTerm ?e_NoBox ?e_BadCover ?e_NoCover ?e_BadRow ?e_NoValue ?e_Twice ?e_NoName ?e_BadShape ?e_BadDeed ?e_Unsound ?tab_ ?cv_ ?pl_NoTerm ?px_NoTerm
    (case a0 => k_is)
    (case l0 => k_is)
    (case c0 => k_is)
    (case k0 => k_is)
    (case a1 => k_is)
    (case l1 => k_is)
    (case c1 => k_is)
    (case k1 => k_is)
    (case a2 => k_is)
    (case l2 => k_is)
    (case c2 => k_is)
    (case k2 => k_is)
    (case a3 => k_is)
    (case l3 => k_is)
    (case c3 => k_is)
    (case k3 => k_is)
    (case a4 => k_is)
    (case l4 => k_is)
    (case c4 => k_is)
    (case k4 => k_is)
    (case a5 => k_is)
    (case l5 => k_is)
    (case c5 => k_is)
    (case k5 => k_is)
    (case a6 => k_is)
    (case l6 => k_is)
    (case c6 => k_is)
    (case k6 => k_is)
    (case a7 => k_is)
    (case l7 => k_is)
    (case c7 => k_is)
    (case k7 => k_is)
    (case a8 => k_is)
    (case l8 => k_is)
    (case c8 => k_is)
    (case k8 => k_is)
    (case a9 => k_is)
    (case l9 => k_is)
    (case c9 => k_is)
    (case k9 => k_is)
    (case a10 => k_is)
    (case l10 => k_is)
    (case c10 => k_is)
    (case k10 => k_is)
    (case a11 => k_is)
    (case l11 => k_is)
    (case c11 => k_is)
    (case k11 => k_is)
    (case a12 => k_is)
    (case l12 => k_is)
    (case c12 => k_is)
    (case k12 => k_is)
    (case a13 => k_is)
    (case l13 => k_is)
    (case c13 => k_is)
    (case k13 => k_is)
    (case a14 => k_is)
    (case l14 => k_is)
    (case c14 => k_is)
    (case k14 => k_is)
    (case z_ValueError => k_is)
    (case z_all => k_is)
    (case z_int => k_is)
    (case z_isinstance => k_is)
    (case z_len => k_is)
    (case z_list => k_is)
    (case z_range => k_is)
    (case z_str => k_is)
    (case z_sum => k_is)
    (case z_tuple => k_is)
    (case q_KEPT => k_is)
    (case p_KEPT => k_is)
    (case g_KEPT => exact Nat.le_of_ble_eq_true rfl)
    (case v_KEPT => exact rfl)
    (case q_LETTERS => k_is)
    (case q_PAIRS => k_is)
    (case p_PAIRS => k_is)
    (case g_PAIRS => exact Nat.le_of_ble_eq_true rfl)
    (case v_PAIRS => exact rfl)
    (case e_CoverError => k_is)
    (case e_NoTerm => k_is)
    (case e_NoBox => k_is)
    (case e_BadCover => k_is)
    (case e_NoCover => k_is)
    (case e_BadRow => k_is)
    (case e_NoValue => k_is)
    (case e_Twice => k_is)
    (case e_NoName => k_is)
    (case e_BadShape => k_is)
    (case e_BadDeed => k_is)
    (case e_Unsound => k_is)
    (case tab_ => exact rfl)
    (case cv_ => exact rfl)
    (case pl_NoTerm => exact rfl)
    (case px_NoTerm => k_exc)
