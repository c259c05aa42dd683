/- Functions of the program as Lean functions, each with its contract: the call comes to that answer. Told by wip/tools/handprint.py of this session. -/
import Derived.Test.YtdgnhmghniloiaaHpx0
import Derived.Test.YtdgnhmghniloiaaHpx3
import Derived.Test.YtdgnhmghniloiaaHpx4
namespace Go.Proofs.Ytdgnhmghniloiaa.Hp
open Go.RowKit Go.Proofs.YtdgnhmghniloiaaW.PrintWords Go.Proofs.YtdgnhmghniloiaaW.PrintLast Go.Proofs.YtdgnhmghniloiaaW.PrintMore
attribute [local go_sem] max2_int min2_int max_two min_two max_three min_three max_four min_four   -- for this text's walks alone
set_option linter.unusedVariables false
set_option linter.unusedSimpArgs false

/-! ### sawtoothlaw01_SafeOrder: function 5 -/
def sawtoothlaw01_SafeOrder.f (a0 : Int) (a1 : Int) (a2 : Int) : Option (Bool) := (sawtoothlaw01_awake.f).bind fun t151 => (if a1 < a0 then (if a0 < a1 then (if a2 < 0 then (if t151 = true then ((safe_Add.f a0 a1).bind fun t152 => ((safe_Add.f a1 a0).bind fun t153 => (if t152 = t153 then ((safe_Mul.f a0 a1).bind fun t154 => ((safe_Mul.f a1 a0).bind fun t155 => (if t154 = t155 then ((safe_Add.f a1 a2).bind fun t156 => ((safe_Add.f a1 a2).bind fun t157 => (if t156 ≤ t157 then ((safe_Sub.f a1 a2).bind fun t158 => ((safe_Sub.f a1 a2).bind fun t159 => (if t158 ≤ t159 then ((safe_Sub.f a2 a1).bind fun t160 => ((safe_Sub.f a2 a1).bind fun t161 => (if t160 ≥ t161 then ((safe_Mul.f a1 0).bind fun t162 => ((safe_Mul.f a1 0).bind fun t163 => (some (decide (t162 ≤ t163))))) else (some false)))) else (some false)))) else (some false)))) else (some false)))) else (some false)))) else (some false)) else (if t151 = true then ((safe_Add.f a0 a1).bind fun t164 => ((safe_Add.f a1 a0).bind fun t165 => (if t164 = t165 then ((safe_Mul.f a0 a1).bind fun t166 => ((safe_Mul.f a1 a0).bind fun t167 => (if t166 = t167 then ((safe_Add.f a1 a2).bind fun t168 => ((safe_Add.f a1 a2).bind fun t169 => (if t168 ≤ t169 then ((safe_Sub.f a1 a2).bind fun t170 => ((safe_Sub.f a1 a2).bind fun t171 => (if t170 ≤ t171 then ((safe_Sub.f a2 a1).bind fun t172 => ((safe_Sub.f a2 a1).bind fun t173 => (if t172 ≥ t173 then ((safe_Mul.f a1 a2).bind fun t174 => ((safe_Mul.f a1 a2).bind fun t175 => (some (decide (t174 ≤ t175))))) else (some false)))) else (some false)))) else (some false)))) else (some false)))) else (some false)))) else (some false))) else (if a2 < 0 then (if t151 = true then ((safe_Add.f a0 a1).bind fun t176 => ((safe_Add.f a1 a0).bind fun t177 => (if t176 = t177 then ((safe_Mul.f a0 a1).bind fun t178 => ((safe_Mul.f a1 a0).bind fun t179 => (if t178 = t179 then ((safe_Add.f a1 a2).bind fun t180 => ((safe_Add.f a0 a2).bind fun t181 => (if t180 ≤ t181 then ((safe_Sub.f a1 a2).bind fun t182 => ((safe_Sub.f a0 a2).bind fun t183 => (if t182 ≤ t183 then ((safe_Sub.f a2 a1).bind fun t184 => ((safe_Sub.f a2 a0).bind fun t185 => (if t184 ≥ t185 then ((safe_Mul.f a1 0).bind fun t186 => ((safe_Mul.f a0 0).bind fun t187 => (some (decide (t186 ≤ t187))))) else (some false)))) else (some false)))) else (some false)))) else (some false)))) else (some false)))) else (some false)) else (if t151 = true then ((safe_Add.f a0 a1).bind fun t188 => ((safe_Add.f a1 a0).bind fun t189 => (if t188 = t189 then ((safe_Mul.f a0 a1).bind fun t190 => ((safe_Mul.f a1 a0).bind fun t191 => (if t190 = t191 then ((safe_Add.f a1 a2).bind fun t192 => ((safe_Add.f a0 a2).bind fun t193 => (if t192 ≤ t193 then ((safe_Sub.f a1 a2).bind fun t194 => ((safe_Sub.f a0 a2).bind fun t195 => (if t194 ≤ t195 then ((safe_Sub.f a2 a1).bind fun t196 => ((safe_Sub.f a2 a0).bind fun t197 => (if t196 ≥ t197 then ((safe_Mul.f a1 a2).bind fun t198 => ((safe_Mul.f a0 a2).bind fun t199 => (some (decide (t198 ≤ t199))))) else (some false)))) else (some false)))) else (some false)))) else (some false)))) else (some false)))) else (some false)))) else (if a0 < a1 then (if a2 < 0 then (if t151 = true then ((safe_Add.f a0 a1).bind fun t200 => ((safe_Add.f a1 a0).bind fun t201 => (if t200 = t201 then ((safe_Mul.f a0 a1).bind fun t202 => ((safe_Mul.f a1 a0).bind fun t203 => (if t202 = t203 then ((safe_Add.f a0 a2).bind fun t204 => ((safe_Add.f a1 a2).bind fun t205 => (if t204 ≤ t205 then ((safe_Sub.f a0 a2).bind fun t206 => ((safe_Sub.f a1 a2).bind fun t207 => (if t206 ≤ t207 then ((safe_Sub.f a2 a0).bind fun t208 => ((safe_Sub.f a2 a1).bind fun t209 => (if t208 ≥ t209 then ((safe_Mul.f a0 0).bind fun t210 => ((safe_Mul.f a1 0).bind fun t211 => (some (decide (t210 ≤ t211))))) else (some false)))) else (some false)))) else (some false)))) else (some false)))) else (some false)))) else (some false)) else (if t151 = true then ((safe_Add.f a0 a1).bind fun t212 => ((safe_Add.f a1 a0).bind fun t213 => (if t212 = t213 then ((safe_Mul.f a0 a1).bind fun t214 => ((safe_Mul.f a1 a0).bind fun t215 => (if t214 = t215 then ((safe_Add.f a0 a2).bind fun t216 => ((safe_Add.f a1 a2).bind fun t217 => (if t216 ≤ t217 then ((safe_Sub.f a0 a2).bind fun t218 => ((safe_Sub.f a1 a2).bind fun t219 => (if t218 ≤ t219 then ((safe_Sub.f a2 a0).bind fun t220 => ((safe_Sub.f a2 a1).bind fun t221 => (if t220 ≥ t221 then ((safe_Mul.f a0 a2).bind fun t222 => ((safe_Mul.f a1 a2).bind fun t223 => (some (decide (t222 ≤ t223))))) else (some false)))) else (some false)))) else (some false)))) else (some false)))) else (some false)))) else (some false))) else (if a2 < 0 then (if t151 = true then ((safe_Add.f a0 a1).bind fun t224 => ((safe_Add.f a1 a0).bind fun t225 => (if t224 = t225 then ((safe_Mul.f a0 a1).bind fun t226 => ((safe_Mul.f a1 a0).bind fun t227 => (if t226 = t227 then ((safe_Add.f a0 a2).bind fun t228 => ((safe_Add.f a0 a2).bind fun t229 => (if t228 ≤ t229 then ((safe_Sub.f a0 a2).bind fun t230 => ((safe_Sub.f a0 a2).bind fun t231 => (if t230 ≤ t231 then ((safe_Sub.f a2 a0).bind fun t232 => ((safe_Sub.f a2 a0).bind fun t233 => (if t232 ≥ t233 then ((safe_Mul.f a0 0).bind fun t234 => ((safe_Mul.f a0 0).bind fun t235 => (some (decide (t234 ≤ t235))))) else (some false)))) else (some false)))) else (some false)))) else (some false)))) else (some false)))) else (some false)) else (if t151 = true then ((safe_Add.f a0 a1).bind fun t236 => ((safe_Add.f a1 a0).bind fun t237 => (if t236 = t237 then ((safe_Mul.f a0 a1).bind fun t238 => ((safe_Mul.f a1 a0).bind fun t239 => (if t238 = t239 then ((safe_Add.f a0 a2).bind fun t240 => ((safe_Add.f a0 a2).bind fun t241 => (if t240 ≤ t241 then ((safe_Sub.f a0 a2).bind fun t242 => ((safe_Sub.f a0 a2).bind fun t243 => (if t242 ≤ t243 then ((safe_Sub.f a2 a0).bind fun t244 => ((safe_Sub.f a2 a0).bind fun t245 => (if t244 ≥ t245 then ((safe_Mul.f a0 a2).bind fun t246 => ((safe_Mul.f a0 a2).bind fun t247 => (some (decide (t246 ≤ t247))))) else (some false)))) else (some false)))) else (some false)))) else (some false)))) else (some false)))) else (some false)))))
set_option maxHeartbeats 8000000 in
set_option maxRecDepth 100000 in
theorem sawtoothlaw01_SafeOrder.calls (a0 : Int) (a1 : Int) (a2 : Int) (r : Bool) (w : World) (h : sawtoothlaw01_SafeOrder.f a0 a1 a2 = some r) (hr_ : r = true) :
    Calls Try.prog 5 #[.int .i64 a0, .int .i64 a1, .int .i64 a2] w fun e w' => e = .returned (.bool r) ∧ Below w.heap.size w w' := by
  have HB := Aside0.mk (Below.refl w.heap.size w)
  have H : ((sawtoothlaw01_awake.f).bind fun t151 => (if a1 < a0 then (if a0 < a1 then (if a2 < 0 then (if t151 = true then ((safe_Add.f a0 a1).bind fun t152 => ((safe_Add.f a1 a0).bind fun t153 => (if t152 = t153 then ((safe_Mul.f a0 a1).bind fun t154 => ((safe_Mul.f a1 a0).bind fun t155 => (if t154 = t155 then ((safe_Add.f a1 a2).bind fun t156 => ((safe_Add.f a1 a2).bind fun t157 => (if t156 ≤ t157 then ((safe_Sub.f a1 a2).bind fun t158 => ((safe_Sub.f a1 a2).bind fun t159 => (if t158 ≤ t159 then ((safe_Sub.f a2 a1).bind fun t160 => ((safe_Sub.f a2 a1).bind fun t161 => (if t160 ≥ t161 then ((safe_Mul.f a1 0).bind fun t162 => ((safe_Mul.f a1 0).bind fun t163 => (some (decide (t162 ≤ t163))))) else (some false)))) else (some false)))) else (some false)))) else (some false)))) else (some false)))) else (some false)) else (if t151 = true then ((safe_Add.f a0 a1).bind fun t164 => ((safe_Add.f a1 a0).bind fun t165 => (if t164 = t165 then ((safe_Mul.f a0 a1).bind fun t166 => ((safe_Mul.f a1 a0).bind fun t167 => (if t166 = t167 then ((safe_Add.f a1 a2).bind fun t168 => ((safe_Add.f a1 a2).bind fun t169 => (if t168 ≤ t169 then ((safe_Sub.f a1 a2).bind fun t170 => ((safe_Sub.f a1 a2).bind fun t171 => (if t170 ≤ t171 then ((safe_Sub.f a2 a1).bind fun t172 => ((safe_Sub.f a2 a1).bind fun t173 => (if t172 ≥ t173 then ((safe_Mul.f a1 a2).bind fun t174 => ((safe_Mul.f a1 a2).bind fun t175 => (some (decide (t174 ≤ t175))))) else (some false)))) else (some false)))) else (some false)))) else (some false)))) else (some false)))) else (some false))) else (if a2 < 0 then (if t151 = true then ((safe_Add.f a0 a1).bind fun t176 => ((safe_Add.f a1 a0).bind fun t177 => (if t176 = t177 then ((safe_Mul.f a0 a1).bind fun t178 => ((safe_Mul.f a1 a0).bind fun t179 => (if t178 = t179 then ((safe_Add.f a1 a2).bind fun t180 => ((safe_Add.f a0 a2).bind fun t181 => (if t180 ≤ t181 then ((safe_Sub.f a1 a2).bind fun t182 => ((safe_Sub.f a0 a2).bind fun t183 => (if t182 ≤ t183 then ((safe_Sub.f a2 a1).bind fun t184 => ((safe_Sub.f a2 a0).bind fun t185 => (if t184 ≥ t185 then ((safe_Mul.f a1 0).bind fun t186 => ((safe_Mul.f a0 0).bind fun t187 => (some (decide (t186 ≤ t187))))) else (some false)))) else (some false)))) else (some false)))) else (some false)))) else (some false)))) else (some false)) else (if t151 = true then ((safe_Add.f a0 a1).bind fun t188 => ((safe_Add.f a1 a0).bind fun t189 => (if t188 = t189 then ((safe_Mul.f a0 a1).bind fun t190 => ((safe_Mul.f a1 a0).bind fun t191 => (if t190 = t191 then ((safe_Add.f a1 a2).bind fun t192 => ((safe_Add.f a0 a2).bind fun t193 => (if t192 ≤ t193 then ((safe_Sub.f a1 a2).bind fun t194 => ((safe_Sub.f a0 a2).bind fun t195 => (if t194 ≤ t195 then ((safe_Sub.f a2 a1).bind fun t196 => ((safe_Sub.f a2 a0).bind fun t197 => (if t196 ≥ t197 then ((safe_Mul.f a1 a2).bind fun t198 => ((safe_Mul.f a0 a2).bind fun t199 => (some (decide (t198 ≤ t199))))) else (some false)))) else (some false)))) else (some false)))) else (some false)))) else (some false)))) else (some false)))) else (if a0 < a1 then (if a2 < 0 then (if t151 = true then ((safe_Add.f a0 a1).bind fun t200 => ((safe_Add.f a1 a0).bind fun t201 => (if t200 = t201 then ((safe_Mul.f a0 a1).bind fun t202 => ((safe_Mul.f a1 a0).bind fun t203 => (if t202 = t203 then ((safe_Add.f a0 a2).bind fun t204 => ((safe_Add.f a1 a2).bind fun t205 => (if t204 ≤ t205 then ((safe_Sub.f a0 a2).bind fun t206 => ((safe_Sub.f a1 a2).bind fun t207 => (if t206 ≤ t207 then ((safe_Sub.f a2 a0).bind fun t208 => ((safe_Sub.f a2 a1).bind fun t209 => (if t208 ≥ t209 then ((safe_Mul.f a0 0).bind fun t210 => ((safe_Mul.f a1 0).bind fun t211 => (some (decide (t210 ≤ t211))))) else (some false)))) else (some false)))) else (some false)))) else (some false)))) else (some false)))) else (some false)) else (if t151 = true then ((safe_Add.f a0 a1).bind fun t212 => ((safe_Add.f a1 a0).bind fun t213 => (if t212 = t213 then ((safe_Mul.f a0 a1).bind fun t214 => ((safe_Mul.f a1 a0).bind fun t215 => (if t214 = t215 then ((safe_Add.f a0 a2).bind fun t216 => ((safe_Add.f a1 a2).bind fun t217 => (if t216 ≤ t217 then ((safe_Sub.f a0 a2).bind fun t218 => ((safe_Sub.f a1 a2).bind fun t219 => (if t218 ≤ t219 then ((safe_Sub.f a2 a0).bind fun t220 => ((safe_Sub.f a2 a1).bind fun t221 => (if t220 ≥ t221 then ((safe_Mul.f a0 a2).bind fun t222 => ((safe_Mul.f a1 a2).bind fun t223 => (some (decide (t222 ≤ t223))))) else (some false)))) else (some false)))) else (some false)))) else (some false)))) else (some false)))) else (some false))) else (if a2 < 0 then (if t151 = true then ((safe_Add.f a0 a1).bind fun t224 => ((safe_Add.f a1 a0).bind fun t225 => (if t224 = t225 then ((safe_Mul.f a0 a1).bind fun t226 => ((safe_Mul.f a1 a0).bind fun t227 => (if t226 = t227 then ((safe_Add.f a0 a2).bind fun t228 => ((safe_Add.f a0 a2).bind fun t229 => (if t228 ≤ t229 then ((safe_Sub.f a0 a2).bind fun t230 => ((safe_Sub.f a0 a2).bind fun t231 => (if t230 ≤ t231 then ((safe_Sub.f a2 a0).bind fun t232 => ((safe_Sub.f a2 a0).bind fun t233 => (if t232 ≥ t233 then ((safe_Mul.f a0 0).bind fun t234 => ((safe_Mul.f a0 0).bind fun t235 => (some (decide (t234 ≤ t235))))) else (some false)))) else (some false)))) else (some false)))) else (some false)))) else (some false)))) else (some false)) else (if t151 = true then ((safe_Add.f a0 a1).bind fun t236 => ((safe_Add.f a1 a0).bind fun t237 => (if t236 = t237 then ((safe_Mul.f a0 a1).bind fun t238 => ((safe_Mul.f a1 a0).bind fun t239 => (if t238 = t239 then ((safe_Add.f a0 a2).bind fun t240 => ((safe_Add.f a0 a2).bind fun t241 => (if t240 ≤ t241 then ((safe_Sub.f a0 a2).bind fun t242 => ((safe_Sub.f a0 a2).bind fun t243 => (if t242 ≤ t243 then ((safe_Sub.f a2 a0).bind fun t244 => ((safe_Sub.f a2 a0).bind fun t245 => (if t244 ≥ t245 then ((safe_Mul.f a0 a2).bind fun t246 => ((safe_Mul.f a0 a2).bind fun t247 => (some (decide (t246 ≤ t247))))) else (some false)))) else (some false)))) else (some false)))) else (some false)))) else (some false)))) else (some false)))))) = some r := h
  clear h
  replace H := Option.bind_eq_some_iff.mp H
  obtain ⟨t151, A40, H⟩ := H
  replace H : (if a1 < a0 then (if a0 < a1 then (if a2 < 0 then (if t151 = true then ((safe_Add.f a0 a1).bind fun t152 => ((safe_Add.f a1 a0).bind fun t153 => (if t152 = t153 then ((safe_Mul.f a0 a1).bind fun t154 => ((safe_Mul.f a1 a0).bind fun t155 => (if t154 = t155 then ((safe_Add.f a1 a2).bind fun t156 => ((safe_Add.f a1 a2).bind fun t157 => (if t156 ≤ t157 then ((safe_Sub.f a1 a2).bind fun t158 => ((safe_Sub.f a1 a2).bind fun t159 => (if t158 ≤ t159 then ((safe_Sub.f a2 a1).bind fun t160 => ((safe_Sub.f a2 a1).bind fun t161 => (if t160 ≥ t161 then ((safe_Mul.f a1 0).bind fun t162 => ((safe_Mul.f a1 0).bind fun t163 => (some (decide (t162 ≤ t163))))) else (some false)))) else (some false)))) else (some false)))) else (some false)))) else (some false)))) else (some false)) else (if t151 = true then ((safe_Add.f a0 a1).bind fun t164 => ((safe_Add.f a1 a0).bind fun t165 => (if t164 = t165 then ((safe_Mul.f a0 a1).bind fun t166 => ((safe_Mul.f a1 a0).bind fun t167 => (if t166 = t167 then ((safe_Add.f a1 a2).bind fun t168 => ((safe_Add.f a1 a2).bind fun t169 => (if t168 ≤ t169 then ((safe_Sub.f a1 a2).bind fun t170 => ((safe_Sub.f a1 a2).bind fun t171 => (if t170 ≤ t171 then ((safe_Sub.f a2 a1).bind fun t172 => ((safe_Sub.f a2 a1).bind fun t173 => (if t172 ≥ t173 then ((safe_Mul.f a1 a2).bind fun t174 => ((safe_Mul.f a1 a2).bind fun t175 => (some (decide (t174 ≤ t175))))) else (some false)))) else (some false)))) else (some false)))) else (some false)))) else (some false)))) else (some false))) else (if a2 < 0 then (if t151 = true then ((safe_Add.f a0 a1).bind fun t176 => ((safe_Add.f a1 a0).bind fun t177 => (if t176 = t177 then ((safe_Mul.f a0 a1).bind fun t178 => ((safe_Mul.f a1 a0).bind fun t179 => (if t178 = t179 then ((safe_Add.f a1 a2).bind fun t180 => ((safe_Add.f a0 a2).bind fun t181 => (if t180 ≤ t181 then ((safe_Sub.f a1 a2).bind fun t182 => ((safe_Sub.f a0 a2).bind fun t183 => (if t182 ≤ t183 then ((safe_Sub.f a2 a1).bind fun t184 => ((safe_Sub.f a2 a0).bind fun t185 => (if t184 ≥ t185 then ((safe_Mul.f a1 0).bind fun t186 => ((safe_Mul.f a0 0).bind fun t187 => (some (decide (t186 ≤ t187))))) else (some false)))) else (some false)))) else (some false)))) else (some false)))) else (some false)))) else (some false)) else (if t151 = true then ((safe_Add.f a0 a1).bind fun t188 => ((safe_Add.f a1 a0).bind fun t189 => (if t188 = t189 then ((safe_Mul.f a0 a1).bind fun t190 => ((safe_Mul.f a1 a0).bind fun t191 => (if t190 = t191 then ((safe_Add.f a1 a2).bind fun t192 => ((safe_Add.f a0 a2).bind fun t193 => (if t192 ≤ t193 then ((safe_Sub.f a1 a2).bind fun t194 => ((safe_Sub.f a0 a2).bind fun t195 => (if t194 ≤ t195 then ((safe_Sub.f a2 a1).bind fun t196 => ((safe_Sub.f a2 a0).bind fun t197 => (if t196 ≥ t197 then ((safe_Mul.f a1 a2).bind fun t198 => ((safe_Mul.f a0 a2).bind fun t199 => (some (decide (t198 ≤ t199))))) else (some false)))) else (some false)))) else (some false)))) else (some false)))) else (some false)))) else (some false)))) else (if a0 < a1 then (if a2 < 0 then (if t151 = true then ((safe_Add.f a0 a1).bind fun t200 => ((safe_Add.f a1 a0).bind fun t201 => (if t200 = t201 then ((safe_Mul.f a0 a1).bind fun t202 => ((safe_Mul.f a1 a0).bind fun t203 => (if t202 = t203 then ((safe_Add.f a0 a2).bind fun t204 => ((safe_Add.f a1 a2).bind fun t205 => (if t204 ≤ t205 then ((safe_Sub.f a0 a2).bind fun t206 => ((safe_Sub.f a1 a2).bind fun t207 => (if t206 ≤ t207 then ((safe_Sub.f a2 a0).bind fun t208 => ((safe_Sub.f a2 a1).bind fun t209 => (if t208 ≥ t209 then ((safe_Mul.f a0 0).bind fun t210 => ((safe_Mul.f a1 0).bind fun t211 => (some (decide (t210 ≤ t211))))) else (some false)))) else (some false)))) else (some false)))) else (some false)))) else (some false)))) else (some false)) else (if t151 = true then ((safe_Add.f a0 a1).bind fun t212 => ((safe_Add.f a1 a0).bind fun t213 => (if t212 = t213 then ((safe_Mul.f a0 a1).bind fun t214 => ((safe_Mul.f a1 a0).bind fun t215 => (if t214 = t215 then ((safe_Add.f a0 a2).bind fun t216 => ((safe_Add.f a1 a2).bind fun t217 => (if t216 ≤ t217 then ((safe_Sub.f a0 a2).bind fun t218 => ((safe_Sub.f a1 a2).bind fun t219 => (if t218 ≤ t219 then ((safe_Sub.f a2 a0).bind fun t220 => ((safe_Sub.f a2 a1).bind fun t221 => (if t220 ≥ t221 then ((safe_Mul.f a0 a2).bind fun t222 => ((safe_Mul.f a1 a2).bind fun t223 => (some (decide (t222 ≤ t223))))) else (some false)))) else (some false)))) else (some false)))) else (some false)))) else (some false)))) else (some false))) else (if a2 < 0 then (if t151 = true then ((safe_Add.f a0 a1).bind fun t224 => ((safe_Add.f a1 a0).bind fun t225 => (if t224 = t225 then ((safe_Mul.f a0 a1).bind fun t226 => ((safe_Mul.f a1 a0).bind fun t227 => (if t226 = t227 then ((safe_Add.f a0 a2).bind fun t228 => ((safe_Add.f a0 a2).bind fun t229 => (if t228 ≤ t229 then ((safe_Sub.f a0 a2).bind fun t230 => ((safe_Sub.f a0 a2).bind fun t231 => (if t230 ≤ t231 then ((safe_Sub.f a2 a0).bind fun t232 => ((safe_Sub.f a2 a0).bind fun t233 => (if t232 ≥ t233 then ((safe_Mul.f a0 0).bind fun t234 => ((safe_Mul.f a0 0).bind fun t235 => (some (decide (t234 ≤ t235))))) else (some false)))) else (some false)))) else (some false)))) else (some false)))) else (some false)))) else (some false)) else (if t151 = true then ((safe_Add.f a0 a1).bind fun t236 => ((safe_Add.f a1 a0).bind fun t237 => (if t236 = t237 then ((safe_Mul.f a0 a1).bind fun t238 => ((safe_Mul.f a1 a0).bind fun t239 => (if t238 = t239 then ((safe_Add.f a0 a2).bind fun t240 => ((safe_Add.f a0 a2).bind fun t241 => (if t240 ≤ t241 then ((safe_Sub.f a0 a2).bind fun t242 => ((safe_Sub.f a0 a2).bind fun t243 => (if t242 ≤ t243 then ((safe_Sub.f a2 a0).bind fun t244 => ((safe_Sub.f a2 a0).bind fun t245 => (if t244 ≥ t245 then ((safe_Mul.f a0 a2).bind fun t246 => ((safe_Mul.f a0 a2).bind fun t247 => (some (decide (t246 ≤ t247))))) else (some false)))) else (some false)))) else (some false)))) else (some false)))) else (some false)))) else (some false))))) = some r := H
  have A4 := Aside0.mk A40
  clear A40
  by_cases c5 : a1 < a0
  · rw [if_pos c5] at H
    have c5i := eq_true c5
    have c5b0 : decide (a1 < a0) = true := decide_eq_true c5
    clear c5
    by_cases c6 : a0 < a1
    · rw [if_pos c6] at H
      have c6i := eq_true c6
      have c6b0 : decide (a0 < a1) = true := decide_eq_true c6
      clear c6
      by_cases c7 : a2 < 0
      · rw [if_pos c7] at H
        have c7i := eq_true c7
        have c7b0 : decide (a2 < 0) = true := decide_eq_true c7
        clear c7
        by_cases c8 : t151 = true
        · subst c8
          have H1 : ((safe_Add.f a0 a1).bind fun t152 => ((safe_Add.f a1 a0).bind fun t153 => (if t152 = t153 then ((safe_Mul.f a0 a1).bind fun t154 => ((safe_Mul.f a1 a0).bind fun t155 => (if t154 = t155 then ((safe_Add.f a1 a2).bind fun t156 => ((safe_Add.f a1 a2).bind fun t157 => (if t156 ≤ t157 then ((safe_Sub.f a1 a2).bind fun t158 => ((safe_Sub.f a1 a2).bind fun t159 => (if t158 ≤ t159 then ((safe_Sub.f a2 a1).bind fun t160 => ((safe_Sub.f a2 a1).bind fun t161 => (if t160 ≥ t161 then ((safe_Mul.f a1 0).bind fun t162 => ((safe_Mul.f a1 0).bind fun t163 => (some (decide (t162 ≤ t163))))) else (some false)))) else (some false)))) else (some false)))) else (some false)))) else (some false)))) = some r := by rw [if_pos rfl] at H; exact H
          clear H
          have H := H1
          clear H1
          replace H := Option.bind_eq_some_iff.mp H
          obtain ⟨t152, A90, H⟩ := H
          replace H : ((safe_Add.f a1 a0).bind fun t153 => (if t152 = t153 then ((safe_Mul.f a0 a1).bind fun t154 => ((safe_Mul.f a1 a0).bind fun t155 => (if t154 = t155 then ((safe_Add.f a1 a2).bind fun t156 => ((safe_Add.f a1 a2).bind fun t157 => (if t156 ≤ t157 then ((safe_Sub.f a1 a2).bind fun t158 => ((safe_Sub.f a1 a2).bind fun t159 => (if t158 ≤ t159 then ((safe_Sub.f a2 a1).bind fun t160 => ((safe_Sub.f a2 a1).bind fun t161 => (if t160 ≥ t161 then ((safe_Mul.f a1 0).bind fun t162 => ((safe_Mul.f a1 0).bind fun t163 => (some (decide (t162 ≤ t163))))) else (some false)))) else (some false)))) else (some false)))) else (some false)))) else (some false))) = some r := H
          have A9 := Aside0.mk A90
          clear A90
          replace H := Option.bind_eq_some_iff.mp H
          obtain ⟨t153, A100, H⟩ := H
          replace H : (if t152 = t153 then ((safe_Mul.f a0 a1).bind fun t154 => ((safe_Mul.f a1 a0).bind fun t155 => (if t154 = t155 then ((safe_Add.f a1 a2).bind fun t156 => ((safe_Add.f a1 a2).bind fun t157 => (if t156 ≤ t157 then ((safe_Sub.f a1 a2).bind fun t158 => ((safe_Sub.f a1 a2).bind fun t159 => (if t158 ≤ t159 then ((safe_Sub.f a2 a1).bind fun t160 => ((safe_Sub.f a2 a1).bind fun t161 => (if t160 ≥ t161 then ((safe_Mul.f a1 0).bind fun t162 => ((safe_Mul.f a1 0).bind fun t163 => (some (decide (t162 ≤ t163))))) else (some false)))) else (some false)))) else (some false)))) else (some false)))) else (some false)) = some r := H
          have A10 := Aside0.mk A100
          clear A100
          by_cases c11 : t152 = t153
          · rw [if_pos c11] at H
            have c11b0 : (t152 == t153) = true := beq_iff_eq.mpr c11
            have c11b1 : (t152 != t153) = false := bne_eq_false_iff_eq.mpr c11
            clear c11
            replace H := Option.bind_eq_some_iff.mp H
            obtain ⟨t154, A120, H⟩ := H
            replace H : ((safe_Mul.f a1 a0).bind fun t155 => (if t154 = t155 then ((safe_Add.f a1 a2).bind fun t156 => ((safe_Add.f a1 a2).bind fun t157 => (if t156 ≤ t157 then ((safe_Sub.f a1 a2).bind fun t158 => ((safe_Sub.f a1 a2).bind fun t159 => (if t158 ≤ t159 then ((safe_Sub.f a2 a1).bind fun t160 => ((safe_Sub.f a2 a1).bind fun t161 => (if t160 ≥ t161 then ((safe_Mul.f a1 0).bind fun t162 => ((safe_Mul.f a1 0).bind fun t163 => (some (decide (t162 ≤ t163))))) else (some false)))) else (some false)))) else (some false)))) else (some false))) = some r := H
            have A12 := Aside0.mk A120
            clear A120
            replace H := Option.bind_eq_some_iff.mp H
            obtain ⟨t155, A130, H⟩ := H
            replace H : (if t154 = t155 then ((safe_Add.f a1 a2).bind fun t156 => ((safe_Add.f a1 a2).bind fun t157 => (if t156 ≤ t157 then ((safe_Sub.f a1 a2).bind fun t158 => ((safe_Sub.f a1 a2).bind fun t159 => (if t158 ≤ t159 then ((safe_Sub.f a2 a1).bind fun t160 => ((safe_Sub.f a2 a1).bind fun t161 => (if t160 ≥ t161 then ((safe_Mul.f a1 0).bind fun t162 => ((safe_Mul.f a1 0).bind fun t163 => (some (decide (t162 ≤ t163))))) else (some false)))) else (some false)))) else (some false)))) else (some false)) = some r := H
            have A13 := Aside0.mk A130
            clear A130
            by_cases c14 : t154 = t155
            · rw [if_pos c14] at H
              have c14b0 : (t154 == t155) = true := beq_iff_eq.mpr c14
              have c14b1 : (t154 != t155) = false := bne_eq_false_iff_eq.mpr c14
              clear c14
              replace H := Option.bind_eq_some_iff.mp H
              obtain ⟨t156, A150, H⟩ := H
              replace H : ((safe_Add.f a1 a2).bind fun t157 => (if t156 ≤ t157 then ((safe_Sub.f a1 a2).bind fun t158 => ((safe_Sub.f a1 a2).bind fun t159 => (if t158 ≤ t159 then ((safe_Sub.f a2 a1).bind fun t160 => ((safe_Sub.f a2 a1).bind fun t161 => (if t160 ≥ t161 then ((safe_Mul.f a1 0).bind fun t162 => ((safe_Mul.f a1 0).bind fun t163 => (some (decide (t162 ≤ t163))))) else (some false)))) else (some false)))) else (some false))) = some r := H
              have A15 := Aside0.mk A150
              clear A150
              replace H := Option.bind_eq_some_iff.mp H
              obtain ⟨t157, A160, H⟩ := H
              replace H : (if t156 ≤ t157 then ((safe_Sub.f a1 a2).bind fun t158 => ((safe_Sub.f a1 a2).bind fun t159 => (if t158 ≤ t159 then ((safe_Sub.f a2 a1).bind fun t160 => ((safe_Sub.f a2 a1).bind fun t161 => (if t160 ≥ t161 then ((safe_Mul.f a1 0).bind fun t162 => ((safe_Mul.f a1 0).bind fun t163 => (some (decide (t162 ≤ t163))))) else (some false)))) else (some false)))) else (some false)) = some r := H
              have A16 := Aside0.mk A160
              clear A160
              have e_ := Option.some.inj (A15.out.symm.trans A16.out)
              obtain rfl := e_
              replace H : (if t156 ≤ t156 then ((safe_Sub.f a1 a2).bind fun t158 => ((safe_Sub.f a1 a2).bind fun t159 => (if t158 ≤ t159 then ((safe_Sub.f a2 a1).bind fun t160 => ((safe_Sub.f a2 a1).bind fun t161 => (if t160 ≥ t161 then ((safe_Mul.f a1 0).bind fun t162 => ((safe_Mul.f a1 0).bind fun t163 => (some (decide (t162 ≤ t163))))) else (some false)))) else (some false)))) else (some false)) = some r := H
              by_cases c17 : t156 ≤ t156
              · rw [if_pos c17] at H
                have c17b0 : decide (t156 ≤ t156) = true := decide_eq_true c17
                clear c17
                replace H := Option.bind_eq_some_iff.mp H
                obtain ⟨t158, A180, H⟩ := H
                replace H : ((safe_Sub.f a1 a2).bind fun t159 => (if t158 ≤ t159 then ((safe_Sub.f a2 a1).bind fun t160 => ((safe_Sub.f a2 a1).bind fun t161 => (if t160 ≥ t161 then ((safe_Mul.f a1 0).bind fun t162 => ((safe_Mul.f a1 0).bind fun t163 => (some (decide (t162 ≤ t163))))) else (some false)))) else (some false))) = some r := H
                have A18 := Aside0.mk A180
                clear A180
                replace H := Option.bind_eq_some_iff.mp H
                obtain ⟨t159, A190, H⟩ := H
                replace H : (if t158 ≤ t159 then ((safe_Sub.f a2 a1).bind fun t160 => ((safe_Sub.f a2 a1).bind fun t161 => (if t160 ≥ t161 then ((safe_Mul.f a1 0).bind fun t162 => ((safe_Mul.f a1 0).bind fun t163 => (some (decide (t162 ≤ t163))))) else (some false)))) else (some false)) = some r := H
                have A19 := Aside0.mk A190
                clear A190
                have e_ := Option.some.inj (A18.out.symm.trans A19.out)
                obtain rfl := e_
                replace H : (if t158 ≤ t158 then ((safe_Sub.f a2 a1).bind fun t160 => ((safe_Sub.f a2 a1).bind fun t161 => (if t160 ≥ t161 then ((safe_Mul.f a1 0).bind fun t162 => ((safe_Mul.f a1 0).bind fun t163 => (some (decide (t162 ≤ t163))))) else (some false)))) else (some false)) = some r := H
                by_cases c20 : t158 ≤ t158
                · rw [if_pos c20] at H
                  have c20b0 : decide (t158 ≤ t158) = true := decide_eq_true c20
                  clear c20
                  replace H := Option.bind_eq_some_iff.mp H
                  obtain ⟨t160, A210, H⟩ := H
                  replace H : ((safe_Sub.f a2 a1).bind fun t161 => (if t160 ≥ t161 then ((safe_Mul.f a1 0).bind fun t162 => ((safe_Mul.f a1 0).bind fun t163 => (some (decide (t162 ≤ t163))))) else (some false))) = some r := H
                  have A21 := Aside0.mk A210
                  clear A210
                  replace H := Option.bind_eq_some_iff.mp H
                  obtain ⟨t161, A220, H⟩ := H
                  replace H : (if t160 ≥ t161 then ((safe_Mul.f a1 0).bind fun t162 => ((safe_Mul.f a1 0).bind fun t163 => (some (decide (t162 ≤ t163))))) else (some false)) = some r := H
                  have A22 := Aside0.mk A220
                  clear A220
                  have e_ := Option.some.inj (A21.out.symm.trans A22.out)
                  obtain rfl := e_
                  replace H : (if t160 ≥ t160 then ((safe_Mul.f a1 0).bind fun t162 => ((safe_Mul.f a1 0).bind fun t163 => (some (decide (t162 ≤ t163))))) else (some false)) = some r := H
                  by_cases c23 : t160 ≥ t160
                  · rw [if_pos c23] at H
                    have c23b0 : decide (t160 ≤ t160) = true := decide_eq_true c23
                    clear c23
                    replace H := Option.bind_eq_some_iff.mp H
                    obtain ⟨t162, A240, H⟩ := H
                    replace H : ((safe_Mul.f a1 0).bind fun t163 => (some (decide (t162 ≤ t163)))) = some r := H
                    have A24 := Aside0.mk A240
                    clear A240
                    replace H := Option.bind_eq_some_iff.mp H
                    obtain ⟨t163, A250, H⟩ := H
                    replace H : (some (decide (t162 ≤ t163))) = some r := H
                    have A25 := Aside0.mk A250
                    clear A250
                    have e_ := Option.some.inj (A24.out.symm.trans A25.out)
                    obtain rfl := e_
                    replace H : (some (decide (t162 ≤ t162))) = some r := H
                    obtain rfl := Option.some.inj H
                    go_enter Try.func5, Try.ntmps5
                    go_wp2_with (first | ((with_reducible refine gate_callee (f := 9) rfl ?_); refine goesL_ (some 11) rfl rfl Try.func9 (by kernel_rfl) rfl #[] rfl (by (try simp only [List.map_toArray, List.map_cons, List.map_nil]); first | done | rfl | (simp only [List.length_drop, List.length_take]; rfl)) ?_; (with_reducible refine (sawtoothlaw01_awake.calls  true _ A4.out).mono ?_); rintro e w26 ⟨rfl, hb⟩; refine ⟨_, rfl, ?_⟩; have n0_ := Aside0.mk (below_step (by repeat (first | (with_reducible first | exact HB.out | apply below_alloc | apply pw_below_drewN | apply below_drew1) | exact HB.out)) hb); clear HB; have HB := n0_; clear n0_; (try clear hb); (try clear hb2); (try clear hk); (try clear hi)) | (go_at_call 14; (with_reducible refine (safe_Add.calls a0 a1 t152 _ A9.out).mono ?_); rintro e w27 ⟨rfl, hb⟩; have n0_ := Aside0.mk (below_step (by repeat (first | (with_reducible first | exact HB.out | apply below_alloc | apply pw_below_drewN | apply below_drew1) | exact HB.out)) hb); clear HB; have HB := n0_; clear n0_; (try clear hb); (try clear hb2); (try clear hk); (try clear hi)) | (go_at_call 14; (with_reducible refine (safe_Add.calls a1 a0 t153 _ A10.out).mono ?_); rintro e w28 ⟨rfl, hb⟩; have n0_ := Aside0.mk (below_step (by repeat (first | (with_reducible first | exact HB.out | apply below_alloc | apply pw_below_drewN | apply below_drew1) | exact HB.out)) hb); clear HB; have HB := n0_; clear n0_; (try clear hb); (try clear hb2); (try clear hk); (try clear hi)) | (go_at_call 18; (with_reducible refine (safe_Mul.calls a0 a1 t154 _ A12.out).mono ?_); rintro e w29 ⟨rfl, hb⟩; have n0_ := Aside0.mk (below_step (by repeat (first | (with_reducible first | exact HB.out | apply below_alloc | apply pw_below_drewN | apply below_drew1) | exact HB.out)) hb); clear HB; have HB := n0_; clear n0_; (try clear hb); (try clear hb2); (try clear hk); (try clear hi)) | (go_at_call 18; (with_reducible refine (safe_Mul.calls a1 a0 t155 _ A13.out).mono ?_); rintro e w30 ⟨rfl, hb⟩; have n0_ := Aside0.mk (below_step (by repeat (first | (with_reducible first | exact HB.out | apply below_alloc | apply pw_below_drewN | apply below_drew1) | exact HB.out)) hb); clear HB; have HB := n0_; clear n0_; (try clear hb); (try clear hb2); (try clear hk); (try clear hi)) | (go_at_call 14; (with_reducible refine (safe_Add.calls a1 a2 t156 _ A15.out).mono ?_); rintro e w31 ⟨rfl, hb⟩; have n0_ := Aside0.mk (below_step (by repeat (first | (with_reducible first | exact HB.out | apply below_alloc | apply pw_below_drewN | apply below_drew1) | exact HB.out)) hb); clear HB; have HB := n0_; clear n0_; (try clear hb); (try clear hb2); (try clear hk); (try clear hi)) | (go_at_call 14; (with_reducible refine (safe_Add.calls a1 a2 t156 _ A16.out).mono ?_); rintro e w32 ⟨rfl, hb⟩; have n0_ := Aside0.mk (below_step (by repeat (first | (with_reducible first | exact HB.out | apply below_alloc | apply pw_below_drewN | apply below_drew1) | exact HB.out)) hb); clear HB; have HB := n0_; clear n0_; (try clear hb); (try clear hb2); (try clear hk); (try clear hi)) | (go_at_call 16; (with_reducible refine (safe_Sub.calls a1 a2 t158 _ A18.out).mono ?_); rintro e w33 ⟨rfl, hb⟩; have n0_ := Aside0.mk (below_step (by repeat (first | (with_reducible first | exact HB.out | apply below_alloc | apply pw_below_drewN | apply below_drew1) | exact HB.out)) hb); clear HB; have HB := n0_; clear n0_; (try clear hb); (try clear hb2); (try clear hk); (try clear hi)) | (go_at_call 16; (with_reducible refine (safe_Sub.calls a1 a2 t158 _ A19.out).mono ?_); rintro e w34 ⟨rfl, hb⟩; have n0_ := Aside0.mk (below_step (by repeat (first | (with_reducible first | exact HB.out | apply below_alloc | apply pw_below_drewN | apply below_drew1) | exact HB.out)) hb); clear HB; have HB := n0_; clear n0_; (try clear hb); (try clear hb2); (try clear hk); (try clear hi)) | (go_at_call 16; (with_reducible refine (safe_Sub.calls a2 a1 t160 _ A21.out).mono ?_); rintro e w35 ⟨rfl, hb⟩; have n0_ := Aside0.mk (below_step (by repeat (first | (with_reducible first | exact HB.out | apply below_alloc | apply pw_below_drewN | apply below_drew1) | exact HB.out)) hb); clear HB; have HB := n0_; clear n0_; (try clear hb); (try clear hb2); (try clear hk); (try clear hi)) | (go_at_call 16; (with_reducible refine (safe_Sub.calls a2 a1 t160 _ A22.out).mono ?_); rintro e w36 ⟨rfl, hb⟩; have n0_ := Aside0.mk (below_step (by repeat (first | (with_reducible first | exact HB.out | apply below_alloc | apply pw_below_drewN | apply below_drew1) | exact HB.out)) hb); clear HB; have HB := n0_; clear n0_; (try clear hb); (try clear hb2); (try clear hk); (try clear hi)) | (go_at_call 18; (with_reducible refine (safe_Mul.calls a1 0 t162 _ A24.out).mono ?_); rintro e w37 ⟨rfl, hb⟩; have n0_ := Aside0.mk (below_step (by repeat (first | (with_reducible first | exact HB.out | apply below_alloc | apply pw_below_drewN | apply below_drew1) | exact HB.out)) hb); clear HB; have HB := n0_; clear n0_; (try clear hb); (try clear hb2); (try clear hk); (try clear hi)) | (go_at_call 18; (with_reducible refine (safe_Mul.calls a1 0 t162 _ A25.out).mono ?_); rintro e w38 ⟨rfl, hb⟩; have n0_ := Aside0.mk (below_step (by repeat (first | (with_reducible first | exact HB.out | apply below_alloc | apply pw_below_drewN | apply below_drew1) | exact HB.out)) hb); clear HB; have HB := n0_; clear n0_; (try clear hb); (try clear hb2); (try clear hk); (try clear hi)))
                    go_ret
                    exact ⟨by first | rfl | (simp [errW_none, errW_some] <;> rfl) | (simp [*, errW_none, errW_some] <;> rfl), by repeat (first | (with_reducible first | exact HB.out | apply below_alloc | apply pw_below_drewN | apply below_drew1) | exact HB.out)⟩
                  · rw [if_neg c23] at H
                    have c23b0 : decide (t160 ≤ t160) = false := decide_eq_false c23
                    clear c23
                    exact absurd ((Option.some.inj H).trans hr_) (by simp)
                · rw [if_neg c20] at H
                  have c20b0 : decide (t158 ≤ t158) = false := decide_eq_false c20
                  clear c20
                  exact absurd ((Option.some.inj H).trans hr_) (by simp)
              · rw [if_neg c17] at H
                have c17b0 : decide (t156 ≤ t156) = false := decide_eq_false c17
                clear c17
                exact absurd ((Option.some.inj H).trans hr_) (by simp)
            · rw [if_neg c14] at H
              have c14b0 : (t154 == t155) = false := beq_eq_false_iff_ne.mpr c14
              have c14b1 : (t154 != t155) = true := bne_iff_ne.mpr c14
              exact absurd ((Option.some.inj H).trans hr_) (by simp)
          · rw [if_neg c11] at H
            have c11b0 : (t152 == t153) = false := beq_eq_false_iff_ne.mpr c11
            have c11b1 : (t152 != t153) = true := bne_iff_ne.mpr c11
            exact absurd ((Option.some.inj H).trans hr_) (by simp)
        · replace c8 := Bool.eq_false_iff.mpr c8
          subst c8
          have H1 : (some false) = some r := by rw [if_neg (show ¬ (false = true) by decide)] at H; exact H
          clear H
          have H := H1
          clear H1
          exact absurd ((Option.some.inj H).trans hr_) (by simp)
      · rw [if_neg c7] at H
        have c7i := eq_false c7
        have c7b0 : decide (a2 < 0) = false := decide_eq_false c7
        clear c7
        by_cases c39 : t151 = true
        · subst c39
          have H1 : ((safe_Add.f a0 a1).bind fun t164 => ((safe_Add.f a1 a0).bind fun t165 => (if t164 = t165 then ((safe_Mul.f a0 a1).bind fun t166 => ((safe_Mul.f a1 a0).bind fun t167 => (if t166 = t167 then ((safe_Add.f a1 a2).bind fun t168 => ((safe_Add.f a1 a2).bind fun t169 => (if t168 ≤ t169 then ((safe_Sub.f a1 a2).bind fun t170 => ((safe_Sub.f a1 a2).bind fun t171 => (if t170 ≤ t171 then ((safe_Sub.f a2 a1).bind fun t172 => ((safe_Sub.f a2 a1).bind fun t173 => (if t172 ≥ t173 then ((safe_Mul.f a1 a2).bind fun t174 => ((safe_Mul.f a1 a2).bind fun t175 => (some (decide (t174 ≤ t175))))) else (some false)))) else (some false)))) else (some false)))) else (some false)))) else (some false)))) = some r := by rw [if_pos rfl] at H; exact H
          clear H
          have H := H1
          clear H1
          replace H := Option.bind_eq_some_iff.mp H
          obtain ⟨t164, A400, H⟩ := H
          replace H : ((safe_Add.f a1 a0).bind fun t165 => (if t164 = t165 then ((safe_Mul.f a0 a1).bind fun t166 => ((safe_Mul.f a1 a0).bind fun t167 => (if t166 = t167 then ((safe_Add.f a1 a2).bind fun t168 => ((safe_Add.f a1 a2).bind fun t169 => (if t168 ≤ t169 then ((safe_Sub.f a1 a2).bind fun t170 => ((safe_Sub.f a1 a2).bind fun t171 => (if t170 ≤ t171 then ((safe_Sub.f a2 a1).bind fun t172 => ((safe_Sub.f a2 a1).bind fun t173 => (if t172 ≥ t173 then ((safe_Mul.f a1 a2).bind fun t174 => ((safe_Mul.f a1 a2).bind fun t175 => (some (decide (t174 ≤ t175))))) else (some false)))) else (some false)))) else (some false)))) else (some false)))) else (some false))) = some r := H
          have A40 := Aside0.mk A400
          clear A400
          replace H := Option.bind_eq_some_iff.mp H
          obtain ⟨t165, A410, H⟩ := H
          replace H : (if t164 = t165 then ((safe_Mul.f a0 a1).bind fun t166 => ((safe_Mul.f a1 a0).bind fun t167 => (if t166 = t167 then ((safe_Add.f a1 a2).bind fun t168 => ((safe_Add.f a1 a2).bind fun t169 => (if t168 ≤ t169 then ((safe_Sub.f a1 a2).bind fun t170 => ((safe_Sub.f a1 a2).bind fun t171 => (if t170 ≤ t171 then ((safe_Sub.f a2 a1).bind fun t172 => ((safe_Sub.f a2 a1).bind fun t173 => (if t172 ≥ t173 then ((safe_Mul.f a1 a2).bind fun t174 => ((safe_Mul.f a1 a2).bind fun t175 => (some (decide (t174 ≤ t175))))) else (some false)))) else (some false)))) else (some false)))) else (some false)))) else (some false)) = some r := H
          have A41 := Aside0.mk A410
          clear A410
          by_cases c42 : t164 = t165
          · rw [if_pos c42] at H
            have c42b0 : (t164 == t165) = true := beq_iff_eq.mpr c42
            have c42b1 : (t164 != t165) = false := bne_eq_false_iff_eq.mpr c42
            clear c42
            replace H := Option.bind_eq_some_iff.mp H
            obtain ⟨t166, A430, H⟩ := H
            replace H : ((safe_Mul.f a1 a0).bind fun t167 => (if t166 = t167 then ((safe_Add.f a1 a2).bind fun t168 => ((safe_Add.f a1 a2).bind fun t169 => (if t168 ≤ t169 then ((safe_Sub.f a1 a2).bind fun t170 => ((safe_Sub.f a1 a2).bind fun t171 => (if t170 ≤ t171 then ((safe_Sub.f a2 a1).bind fun t172 => ((safe_Sub.f a2 a1).bind fun t173 => (if t172 ≥ t173 then ((safe_Mul.f a1 a2).bind fun t174 => ((safe_Mul.f a1 a2).bind fun t175 => (some (decide (t174 ≤ t175))))) else (some false)))) else (some false)))) else (some false)))) else (some false))) = some r := H
            have A43 := Aside0.mk A430
            clear A430
            replace H := Option.bind_eq_some_iff.mp H
            obtain ⟨t167, A440, H⟩ := H
            replace H : (if t166 = t167 then ((safe_Add.f a1 a2).bind fun t168 => ((safe_Add.f a1 a2).bind fun t169 => (if t168 ≤ t169 then ((safe_Sub.f a1 a2).bind fun t170 => ((safe_Sub.f a1 a2).bind fun t171 => (if t170 ≤ t171 then ((safe_Sub.f a2 a1).bind fun t172 => ((safe_Sub.f a2 a1).bind fun t173 => (if t172 ≥ t173 then ((safe_Mul.f a1 a2).bind fun t174 => ((safe_Mul.f a1 a2).bind fun t175 => (some (decide (t174 ≤ t175))))) else (some false)))) else (some false)))) else (some false)))) else (some false)) = some r := H
            have A44 := Aside0.mk A440
            clear A440
            by_cases c45 : t166 = t167
            · rw [if_pos c45] at H
              have c45b0 : (t166 == t167) = true := beq_iff_eq.mpr c45
              have c45b1 : (t166 != t167) = false := bne_eq_false_iff_eq.mpr c45
              clear c45
              replace H := Option.bind_eq_some_iff.mp H
              obtain ⟨t168, A460, H⟩ := H
              replace H : ((safe_Add.f a1 a2).bind fun t169 => (if t168 ≤ t169 then ((safe_Sub.f a1 a2).bind fun t170 => ((safe_Sub.f a1 a2).bind fun t171 => (if t170 ≤ t171 then ((safe_Sub.f a2 a1).bind fun t172 => ((safe_Sub.f a2 a1).bind fun t173 => (if t172 ≥ t173 then ((safe_Mul.f a1 a2).bind fun t174 => ((safe_Mul.f a1 a2).bind fun t175 => (some (decide (t174 ≤ t175))))) else (some false)))) else (some false)))) else (some false))) = some r := H
              have A46 := Aside0.mk A460
              clear A460
              replace H := Option.bind_eq_some_iff.mp H
              obtain ⟨t169, A470, H⟩ := H
              replace H : (if t168 ≤ t169 then ((safe_Sub.f a1 a2).bind fun t170 => ((safe_Sub.f a1 a2).bind fun t171 => (if t170 ≤ t171 then ((safe_Sub.f a2 a1).bind fun t172 => ((safe_Sub.f a2 a1).bind fun t173 => (if t172 ≥ t173 then ((safe_Mul.f a1 a2).bind fun t174 => ((safe_Mul.f a1 a2).bind fun t175 => (some (decide (t174 ≤ t175))))) else (some false)))) else (some false)))) else (some false)) = some r := H
              have A47 := Aside0.mk A470
              clear A470
              have e_ := Option.some.inj (A46.out.symm.trans A47.out)
              obtain rfl := e_
              replace H : (if t168 ≤ t168 then ((safe_Sub.f a1 a2).bind fun t170 => ((safe_Sub.f a1 a2).bind fun t171 => (if t170 ≤ t171 then ((safe_Sub.f a2 a1).bind fun t172 => ((safe_Sub.f a2 a1).bind fun t173 => (if t172 ≥ t173 then ((safe_Mul.f a1 a2).bind fun t174 => ((safe_Mul.f a1 a2).bind fun t175 => (some (decide (t174 ≤ t175))))) else (some false)))) else (some false)))) else (some false)) = some r := H
              by_cases c48 : t168 ≤ t168
              · rw [if_pos c48] at H
                have c48b0 : decide (t168 ≤ t168) = true := decide_eq_true c48
                clear c48
                replace H := Option.bind_eq_some_iff.mp H
                obtain ⟨t170, A490, H⟩ := H
                replace H : ((safe_Sub.f a1 a2).bind fun t171 => (if t170 ≤ t171 then ((safe_Sub.f a2 a1).bind fun t172 => ((safe_Sub.f a2 a1).bind fun t173 => (if t172 ≥ t173 then ((safe_Mul.f a1 a2).bind fun t174 => ((safe_Mul.f a1 a2).bind fun t175 => (some (decide (t174 ≤ t175))))) else (some false)))) else (some false))) = some r := H
                have A49 := Aside0.mk A490
                clear A490
                replace H := Option.bind_eq_some_iff.mp H
                obtain ⟨t171, A500, H⟩ := H
                replace H : (if t170 ≤ t171 then ((safe_Sub.f a2 a1).bind fun t172 => ((safe_Sub.f a2 a1).bind fun t173 => (if t172 ≥ t173 then ((safe_Mul.f a1 a2).bind fun t174 => ((safe_Mul.f a1 a2).bind fun t175 => (some (decide (t174 ≤ t175))))) else (some false)))) else (some false)) = some r := H
                have A50 := Aside0.mk A500
                clear A500
                have e_ := Option.some.inj (A49.out.symm.trans A50.out)
                obtain rfl := e_
                replace H : (if t170 ≤ t170 then ((safe_Sub.f a2 a1).bind fun t172 => ((safe_Sub.f a2 a1).bind fun t173 => (if t172 ≥ t173 then ((safe_Mul.f a1 a2).bind fun t174 => ((safe_Mul.f a1 a2).bind fun t175 => (some (decide (t174 ≤ t175))))) else (some false)))) else (some false)) = some r := H
                by_cases c51 : t170 ≤ t170
                · rw [if_pos c51] at H
                  have c51b0 : decide (t170 ≤ t170) = true := decide_eq_true c51
                  clear c51
                  replace H := Option.bind_eq_some_iff.mp H
                  obtain ⟨t172, A520, H⟩ := H
                  replace H : ((safe_Sub.f a2 a1).bind fun t173 => (if t172 ≥ t173 then ((safe_Mul.f a1 a2).bind fun t174 => ((safe_Mul.f a1 a2).bind fun t175 => (some (decide (t174 ≤ t175))))) else (some false))) = some r := H
                  have A52 := Aside0.mk A520
                  clear A520
                  replace H := Option.bind_eq_some_iff.mp H
                  obtain ⟨t173, A530, H⟩ := H
                  replace H : (if t172 ≥ t173 then ((safe_Mul.f a1 a2).bind fun t174 => ((safe_Mul.f a1 a2).bind fun t175 => (some (decide (t174 ≤ t175))))) else (some false)) = some r := H
                  have A53 := Aside0.mk A530
                  clear A530
                  have e_ := Option.some.inj (A52.out.symm.trans A53.out)
                  obtain rfl := e_
                  replace H : (if t172 ≥ t172 then ((safe_Mul.f a1 a2).bind fun t174 => ((safe_Mul.f a1 a2).bind fun t175 => (some (decide (t174 ≤ t175))))) else (some false)) = some r := H
                  by_cases c54 : t172 ≥ t172
                  · rw [if_pos c54] at H
                    have c54b0 : decide (t172 ≤ t172) = true := decide_eq_true c54
                    clear c54
                    replace H := Option.bind_eq_some_iff.mp H
                    obtain ⟨t174, A550, H⟩ := H
                    replace H : ((safe_Mul.f a1 a2).bind fun t175 => (some (decide (t174 ≤ t175)))) = some r := H
                    have A55 := Aside0.mk A550
                    clear A550
                    replace H := Option.bind_eq_some_iff.mp H
                    obtain ⟨t175, A560, H⟩ := H
                    replace H : (some (decide (t174 ≤ t175))) = some r := H
                    have A56 := Aside0.mk A560
                    clear A560
                    have e_ := Option.some.inj (A55.out.symm.trans A56.out)
                    obtain rfl := e_
                    replace H : (some (decide (t174 ≤ t174))) = some r := H
                    obtain rfl := Option.some.inj H
                    go_enter Try.func5, Try.ntmps5
                    go_wp2_with (first | ((with_reducible refine gate_callee (f := 9) rfl ?_); refine goesL_ (some 11) rfl rfl Try.func9 (by kernel_rfl) rfl #[] rfl (by (try simp only [List.map_toArray, List.map_cons, List.map_nil]); first | done | rfl | (simp only [List.length_drop, List.length_take]; rfl)) ?_; (with_reducible refine (sawtoothlaw01_awake.calls  true _ A4.out).mono ?_); rintro e w57 ⟨rfl, hb⟩; refine ⟨_, rfl, ?_⟩; have n0_ := Aside0.mk (below_step (by repeat (first | (with_reducible first | exact HB.out | apply below_alloc | apply pw_below_drewN | apply below_drew1) | exact HB.out)) hb); clear HB; have HB := n0_; clear n0_; (try clear hb); (try clear hb2); (try clear hk); (try clear hi)) | (go_at_call 14; (with_reducible refine (safe_Add.calls a0 a1 t164 _ A40.out).mono ?_); rintro e w58 ⟨rfl, hb⟩; have n0_ := Aside0.mk (below_step (by repeat (first | (with_reducible first | exact HB.out | apply below_alloc | apply pw_below_drewN | apply below_drew1) | exact HB.out)) hb); clear HB; have HB := n0_; clear n0_; (try clear hb); (try clear hb2); (try clear hk); (try clear hi)) | (go_at_call 14; (with_reducible refine (safe_Add.calls a1 a0 t165 _ A41.out).mono ?_); rintro e w59 ⟨rfl, hb⟩; have n0_ := Aside0.mk (below_step (by repeat (first | (with_reducible first | exact HB.out | apply below_alloc | apply pw_below_drewN | apply below_drew1) | exact HB.out)) hb); clear HB; have HB := n0_; clear n0_; (try clear hb); (try clear hb2); (try clear hk); (try clear hi)) | (go_at_call 18; (with_reducible refine (safe_Mul.calls a0 a1 t166 _ A43.out).mono ?_); rintro e w60 ⟨rfl, hb⟩; have n0_ := Aside0.mk (below_step (by repeat (first | (with_reducible first | exact HB.out | apply below_alloc | apply pw_below_drewN | apply below_drew1) | exact HB.out)) hb); clear HB; have HB := n0_; clear n0_; (try clear hb); (try clear hb2); (try clear hk); (try clear hi)) | (go_at_call 18; (with_reducible refine (safe_Mul.calls a1 a0 t167 _ A44.out).mono ?_); rintro e w61 ⟨rfl, hb⟩; have n0_ := Aside0.mk (below_step (by repeat (first | (with_reducible first | exact HB.out | apply below_alloc | apply pw_below_drewN | apply below_drew1) | exact HB.out)) hb); clear HB; have HB := n0_; clear n0_; (try clear hb); (try clear hb2); (try clear hk); (try clear hi)) | (go_at_call 14; (with_reducible refine (safe_Add.calls a1 a2 t168 _ A46.out).mono ?_); rintro e w62 ⟨rfl, hb⟩; have n0_ := Aside0.mk (below_step (by repeat (first | (with_reducible first | exact HB.out | apply below_alloc | apply pw_below_drewN | apply below_drew1) | exact HB.out)) hb); clear HB; have HB := n0_; clear n0_; (try clear hb); (try clear hb2); (try clear hk); (try clear hi)) | (go_at_call 14; (with_reducible refine (safe_Add.calls a1 a2 t168 _ A47.out).mono ?_); rintro e w63 ⟨rfl, hb⟩; have n0_ := Aside0.mk (below_step (by repeat (first | (with_reducible first | exact HB.out | apply below_alloc | apply pw_below_drewN | apply below_drew1) | exact HB.out)) hb); clear HB; have HB := n0_; clear n0_; (try clear hb); (try clear hb2); (try clear hk); (try clear hi)) | (go_at_call 16; (with_reducible refine (safe_Sub.calls a1 a2 t170 _ A49.out).mono ?_); rintro e w64 ⟨rfl, hb⟩; have n0_ := Aside0.mk (below_step (by repeat (first | (with_reducible first | exact HB.out | apply below_alloc | apply pw_below_drewN | apply below_drew1) | exact HB.out)) hb); clear HB; have HB := n0_; clear n0_; (try clear hb); (try clear hb2); (try clear hk); (try clear hi)) | (go_at_call 16; (with_reducible refine (safe_Sub.calls a1 a2 t170 _ A50.out).mono ?_); rintro e w65 ⟨rfl, hb⟩; have n0_ := Aside0.mk (below_step (by repeat (first | (with_reducible first | exact HB.out | apply below_alloc | apply pw_below_drewN | apply below_drew1) | exact HB.out)) hb); clear HB; have HB := n0_; clear n0_; (try clear hb); (try clear hb2); (try clear hk); (try clear hi)) | (go_at_call 16; (with_reducible refine (safe_Sub.calls a2 a1 t172 _ A52.out).mono ?_); rintro e w66 ⟨rfl, hb⟩; have n0_ := Aside0.mk (below_step (by repeat (first | (with_reducible first | exact HB.out | apply below_alloc | apply pw_below_drewN | apply below_drew1) | exact HB.out)) hb); clear HB; have HB := n0_; clear n0_; (try clear hb); (try clear hb2); (try clear hk); (try clear hi)) | (go_at_call 16; (with_reducible refine (safe_Sub.calls a2 a1 t172 _ A53.out).mono ?_); rintro e w67 ⟨rfl, hb⟩; have n0_ := Aside0.mk (below_step (by repeat (first | (with_reducible first | exact HB.out | apply below_alloc | apply pw_below_drewN | apply below_drew1) | exact HB.out)) hb); clear HB; have HB := n0_; clear n0_; (try clear hb); (try clear hb2); (try clear hk); (try clear hi)) | (go_at_call 18; (with_reducible refine (safe_Mul.calls a1 a2 t174 _ A55.out).mono ?_); rintro e w68 ⟨rfl, hb⟩; have n0_ := Aside0.mk (below_step (by repeat (first | (with_reducible first | exact HB.out | apply below_alloc | apply pw_below_drewN | apply below_drew1) | exact HB.out)) hb); clear HB; have HB := n0_; clear n0_; (try clear hb); (try clear hb2); (try clear hk); (try clear hi)) | (go_at_call 18; (with_reducible refine (safe_Mul.calls a1 a2 t174 _ A56.out).mono ?_); rintro e w69 ⟨rfl, hb⟩; have n0_ := Aside0.mk (below_step (by repeat (first | (with_reducible first | exact HB.out | apply below_alloc | apply pw_below_drewN | apply below_drew1) | exact HB.out)) hb); clear HB; have HB := n0_; clear n0_; (try clear hb); (try clear hb2); (try clear hk); (try clear hi)))
                    go_ret
                    exact ⟨by first | rfl | (simp [errW_none, errW_some] <;> rfl) | (simp [*, errW_none, errW_some] <;> rfl), by repeat (first | (with_reducible first | exact HB.out | apply below_alloc | apply pw_below_drewN | apply below_drew1) | exact HB.out)⟩
                  · rw [if_neg c54] at H
                    have c54b0 : decide (t172 ≤ t172) = false := decide_eq_false c54
                    clear c54
                    exact absurd ((Option.some.inj H).trans hr_) (by simp)
                · rw [if_neg c51] at H
                  have c51b0 : decide (t170 ≤ t170) = false := decide_eq_false c51
                  clear c51
                  exact absurd ((Option.some.inj H).trans hr_) (by simp)
              · rw [if_neg c48] at H
                have c48b0 : decide (t168 ≤ t168) = false := decide_eq_false c48
                clear c48
                exact absurd ((Option.some.inj H).trans hr_) (by simp)
            · rw [if_neg c45] at H
              have c45b0 : (t166 == t167) = false := beq_eq_false_iff_ne.mpr c45
              have c45b1 : (t166 != t167) = true := bne_iff_ne.mpr c45
              exact absurd ((Option.some.inj H).trans hr_) (by simp)
          · rw [if_neg c42] at H
            have c42b0 : (t164 == t165) = false := beq_eq_false_iff_ne.mpr c42
            have c42b1 : (t164 != t165) = true := bne_iff_ne.mpr c42
            exact absurd ((Option.some.inj H).trans hr_) (by simp)
        · replace c39 := Bool.eq_false_iff.mpr c39
          subst c39
          have H1 : (some false) = some r := by rw [if_neg (show ¬ (false = true) by decide)] at H; exact H
          clear H
          have H := H1
          clear H1
          exact absurd ((Option.some.inj H).trans hr_) (by simp)
    · rw [if_neg c6] at H
      have c6i := eq_false c6
      have c6b0 : decide (a0 < a1) = false := decide_eq_false c6
      clear c6
      by_cases c70 : a2 < 0
      · rw [if_pos c70] at H
        have c70i := eq_true c70
        have c70b0 : decide (a2 < 0) = true := decide_eq_true c70
        clear c70
        by_cases c71 : t151 = true
        · subst c71
          have H1 : ((safe_Add.f a0 a1).bind fun t176 => ((safe_Add.f a1 a0).bind fun t177 => (if t176 = t177 then ((safe_Mul.f a0 a1).bind fun t178 => ((safe_Mul.f a1 a0).bind fun t179 => (if t178 = t179 then ((safe_Add.f a1 a2).bind fun t180 => ((safe_Add.f a0 a2).bind fun t181 => (if t180 ≤ t181 then ((safe_Sub.f a1 a2).bind fun t182 => ((safe_Sub.f a0 a2).bind fun t183 => (if t182 ≤ t183 then ((safe_Sub.f a2 a1).bind fun t184 => ((safe_Sub.f a2 a0).bind fun t185 => (if t184 ≥ t185 then ((safe_Mul.f a1 0).bind fun t186 => ((safe_Mul.f a0 0).bind fun t187 => (some (decide (t186 ≤ t187))))) else (some false)))) else (some false)))) else (some false)))) else (some false)))) else (some false)))) = some r := by rw [if_pos rfl] at H; exact H
          clear H
          have H := H1
          clear H1
          replace H := Option.bind_eq_some_iff.mp H
          obtain ⟨t176, A720, H⟩ := H
          replace H : ((safe_Add.f a1 a0).bind fun t177 => (if t176 = t177 then ((safe_Mul.f a0 a1).bind fun t178 => ((safe_Mul.f a1 a0).bind fun t179 => (if t178 = t179 then ((safe_Add.f a1 a2).bind fun t180 => ((safe_Add.f a0 a2).bind fun t181 => (if t180 ≤ t181 then ((safe_Sub.f a1 a2).bind fun t182 => ((safe_Sub.f a0 a2).bind fun t183 => (if t182 ≤ t183 then ((safe_Sub.f a2 a1).bind fun t184 => ((safe_Sub.f a2 a0).bind fun t185 => (if t184 ≥ t185 then ((safe_Mul.f a1 0).bind fun t186 => ((safe_Mul.f a0 0).bind fun t187 => (some (decide (t186 ≤ t187))))) else (some false)))) else (some false)))) else (some false)))) else (some false)))) else (some false))) = some r := H
          have A72 := Aside0.mk A720
          clear A720
          replace H := Option.bind_eq_some_iff.mp H
          obtain ⟨t177, A730, H⟩ := H
          replace H : (if t176 = t177 then ((safe_Mul.f a0 a1).bind fun t178 => ((safe_Mul.f a1 a0).bind fun t179 => (if t178 = t179 then ((safe_Add.f a1 a2).bind fun t180 => ((safe_Add.f a0 a2).bind fun t181 => (if t180 ≤ t181 then ((safe_Sub.f a1 a2).bind fun t182 => ((safe_Sub.f a0 a2).bind fun t183 => (if t182 ≤ t183 then ((safe_Sub.f a2 a1).bind fun t184 => ((safe_Sub.f a2 a0).bind fun t185 => (if t184 ≥ t185 then ((safe_Mul.f a1 0).bind fun t186 => ((safe_Mul.f a0 0).bind fun t187 => (some (decide (t186 ≤ t187))))) else (some false)))) else (some false)))) else (some false)))) else (some false)))) else (some false)) = some r := H
          have A73 := Aside0.mk A730
          clear A730
          by_cases c74 : t176 = t177
          · rw [if_pos c74] at H
            have c74b0 : (t176 == t177) = true := beq_iff_eq.mpr c74
            have c74b1 : (t176 != t177) = false := bne_eq_false_iff_eq.mpr c74
            clear c74
            replace H := Option.bind_eq_some_iff.mp H
            obtain ⟨t178, A750, H⟩ := H
            replace H : ((safe_Mul.f a1 a0).bind fun t179 => (if t178 = t179 then ((safe_Add.f a1 a2).bind fun t180 => ((safe_Add.f a0 a2).bind fun t181 => (if t180 ≤ t181 then ((safe_Sub.f a1 a2).bind fun t182 => ((safe_Sub.f a0 a2).bind fun t183 => (if t182 ≤ t183 then ((safe_Sub.f a2 a1).bind fun t184 => ((safe_Sub.f a2 a0).bind fun t185 => (if t184 ≥ t185 then ((safe_Mul.f a1 0).bind fun t186 => ((safe_Mul.f a0 0).bind fun t187 => (some (decide (t186 ≤ t187))))) else (some false)))) else (some false)))) else (some false)))) else (some false))) = some r := H
            have A75 := Aside0.mk A750
            clear A750
            replace H := Option.bind_eq_some_iff.mp H
            obtain ⟨t179, A760, H⟩ := H
            replace H : (if t178 = t179 then ((safe_Add.f a1 a2).bind fun t180 => ((safe_Add.f a0 a2).bind fun t181 => (if t180 ≤ t181 then ((safe_Sub.f a1 a2).bind fun t182 => ((safe_Sub.f a0 a2).bind fun t183 => (if t182 ≤ t183 then ((safe_Sub.f a2 a1).bind fun t184 => ((safe_Sub.f a2 a0).bind fun t185 => (if t184 ≥ t185 then ((safe_Mul.f a1 0).bind fun t186 => ((safe_Mul.f a0 0).bind fun t187 => (some (decide (t186 ≤ t187))))) else (some false)))) else (some false)))) else (some false)))) else (some false)) = some r := H
            have A76 := Aside0.mk A760
            clear A760
            by_cases c77 : t178 = t179
            · rw [if_pos c77] at H
              have c77b0 : (t178 == t179) = true := beq_iff_eq.mpr c77
              have c77b1 : (t178 != t179) = false := bne_eq_false_iff_eq.mpr c77
              clear c77
              replace H := Option.bind_eq_some_iff.mp H
              obtain ⟨t180, A780, H⟩ := H
              replace H : ((safe_Add.f a0 a2).bind fun t181 => (if t180 ≤ t181 then ((safe_Sub.f a1 a2).bind fun t182 => ((safe_Sub.f a0 a2).bind fun t183 => (if t182 ≤ t183 then ((safe_Sub.f a2 a1).bind fun t184 => ((safe_Sub.f a2 a0).bind fun t185 => (if t184 ≥ t185 then ((safe_Mul.f a1 0).bind fun t186 => ((safe_Mul.f a0 0).bind fun t187 => (some (decide (t186 ≤ t187))))) else (some false)))) else (some false)))) else (some false))) = some r := H
              have A78 := Aside0.mk A780
              clear A780
              replace H := Option.bind_eq_some_iff.mp H
              obtain ⟨t181, A790, H⟩ := H
              replace H : (if t180 ≤ t181 then ((safe_Sub.f a1 a2).bind fun t182 => ((safe_Sub.f a0 a2).bind fun t183 => (if t182 ≤ t183 then ((safe_Sub.f a2 a1).bind fun t184 => ((safe_Sub.f a2 a0).bind fun t185 => (if t184 ≥ t185 then ((safe_Mul.f a1 0).bind fun t186 => ((safe_Mul.f a0 0).bind fun t187 => (some (decide (t186 ≤ t187))))) else (some false)))) else (some false)))) else (some false)) = some r := H
              have A79 := Aside0.mk A790
              clear A790
              by_cases c80 : t180 ≤ t181
              · rw [if_pos c80] at H
                have c80b0 : decide (t180 ≤ t181) = true := decide_eq_true c80
                clear c80
                replace H := Option.bind_eq_some_iff.mp H
                obtain ⟨t182, A810, H⟩ := H
                replace H : ((safe_Sub.f a0 a2).bind fun t183 => (if t182 ≤ t183 then ((safe_Sub.f a2 a1).bind fun t184 => ((safe_Sub.f a2 a0).bind fun t185 => (if t184 ≥ t185 then ((safe_Mul.f a1 0).bind fun t186 => ((safe_Mul.f a0 0).bind fun t187 => (some (decide (t186 ≤ t187))))) else (some false)))) else (some false))) = some r := H
                have A81 := Aside0.mk A810
                clear A810
                replace H := Option.bind_eq_some_iff.mp H
                obtain ⟨t183, A820, H⟩ := H
                replace H : (if t182 ≤ t183 then ((safe_Sub.f a2 a1).bind fun t184 => ((safe_Sub.f a2 a0).bind fun t185 => (if t184 ≥ t185 then ((safe_Mul.f a1 0).bind fun t186 => ((safe_Mul.f a0 0).bind fun t187 => (some (decide (t186 ≤ t187))))) else (some false)))) else (some false)) = some r := H
                have A82 := Aside0.mk A820
                clear A820
                by_cases c83 : t182 ≤ t183
                · rw [if_pos c83] at H
                  have c83b0 : decide (t182 ≤ t183) = true := decide_eq_true c83
                  clear c83
                  replace H := Option.bind_eq_some_iff.mp H
                  obtain ⟨t184, A840, H⟩ := H
                  replace H : ((safe_Sub.f a2 a0).bind fun t185 => (if t184 ≥ t185 then ((safe_Mul.f a1 0).bind fun t186 => ((safe_Mul.f a0 0).bind fun t187 => (some (decide (t186 ≤ t187))))) else (some false))) = some r := H
                  have A84 := Aside0.mk A840
                  clear A840
                  replace H := Option.bind_eq_some_iff.mp H
                  obtain ⟨t185, A850, H⟩ := H
                  replace H : (if t184 ≥ t185 then ((safe_Mul.f a1 0).bind fun t186 => ((safe_Mul.f a0 0).bind fun t187 => (some (decide (t186 ≤ t187))))) else (some false)) = some r := H
                  have A85 := Aside0.mk A850
                  clear A850
                  by_cases c86 : t184 ≥ t185
                  · rw [if_pos c86] at H
                    have c86b0 : decide (t185 ≤ t184) = true := decide_eq_true c86
                    clear c86
                    replace H := Option.bind_eq_some_iff.mp H
                    obtain ⟨t186, A870, H⟩ := H
                    replace H : ((safe_Mul.f a0 0).bind fun t187 => (some (decide (t186 ≤ t187)))) = some r := H
                    have A87 := Aside0.mk A870
                    clear A870
                    replace H := Option.bind_eq_some_iff.mp H
                    obtain ⟨t187, A880, H⟩ := H
                    replace H : (some (decide (t186 ≤ t187))) = some r := H
                    have A88 := Aside0.mk A880
                    clear A880
                    obtain rfl := Option.some.inj H
                    go_enter Try.func5, Try.ntmps5
                    go_wp2_with (first | ((with_reducible refine gate_callee (f := 9) rfl ?_); refine goesL_ (some 11) rfl rfl Try.func9 (by kernel_rfl) rfl #[] rfl (by (try simp only [List.map_toArray, List.map_cons, List.map_nil]); first | done | rfl | (simp only [List.length_drop, List.length_take]; rfl)) ?_; (with_reducible refine (sawtoothlaw01_awake.calls  true _ A4.out).mono ?_); rintro e w89 ⟨rfl, hb⟩; refine ⟨_, rfl, ?_⟩; have n0_ := Aside0.mk (below_step (by repeat (first | (with_reducible first | exact HB.out | apply below_alloc | apply pw_below_drewN | apply below_drew1) | exact HB.out)) hb); clear HB; have HB := n0_; clear n0_; (try clear hb); (try clear hb2); (try clear hk); (try clear hi)) | (go_at_call 14; (with_reducible refine (safe_Add.calls a0 a1 t176 _ A72.out).mono ?_); rintro e w90 ⟨rfl, hb⟩; have n0_ := Aside0.mk (below_step (by repeat (first | (with_reducible first | exact HB.out | apply below_alloc | apply pw_below_drewN | apply below_drew1) | exact HB.out)) hb); clear HB; have HB := n0_; clear n0_; (try clear hb); (try clear hb2); (try clear hk); (try clear hi)) | (go_at_call 14; (with_reducible refine (safe_Add.calls a1 a0 t177 _ A73.out).mono ?_); rintro e w91 ⟨rfl, hb⟩; have n0_ := Aside0.mk (below_step (by repeat (first | (with_reducible first | exact HB.out | apply below_alloc | apply pw_below_drewN | apply below_drew1) | exact HB.out)) hb); clear HB; have HB := n0_; clear n0_; (try clear hb); (try clear hb2); (try clear hk); (try clear hi)) | (go_at_call 18; (with_reducible refine (safe_Mul.calls a0 a1 t178 _ A75.out).mono ?_); rintro e w92 ⟨rfl, hb⟩; have n0_ := Aside0.mk (below_step (by repeat (first | (with_reducible first | exact HB.out | apply below_alloc | apply pw_below_drewN | apply below_drew1) | exact HB.out)) hb); clear HB; have HB := n0_; clear n0_; (try clear hb); (try clear hb2); (try clear hk); (try clear hi)) | (go_at_call 18; (with_reducible refine (safe_Mul.calls a1 a0 t179 _ A76.out).mono ?_); rintro e w93 ⟨rfl, hb⟩; have n0_ := Aside0.mk (below_step (by repeat (first | (with_reducible first | exact HB.out | apply below_alloc | apply pw_below_drewN | apply below_drew1) | exact HB.out)) hb); clear HB; have HB := n0_; clear n0_; (try clear hb); (try clear hb2); (try clear hk); (try clear hi)) | (go_at_call 14; (with_reducible refine (safe_Add.calls a1 a2 t180 _ A78.out).mono ?_); rintro e w94 ⟨rfl, hb⟩; have n0_ := Aside0.mk (below_step (by repeat (first | (with_reducible first | exact HB.out | apply below_alloc | apply pw_below_drewN | apply below_drew1) | exact HB.out)) hb); clear HB; have HB := n0_; clear n0_; (try clear hb); (try clear hb2); (try clear hk); (try clear hi)) | (go_at_call 14; (with_reducible refine (safe_Add.calls a0 a2 t181 _ A79.out).mono ?_); rintro e w95 ⟨rfl, hb⟩; have n0_ := Aside0.mk (below_step (by repeat (first | (with_reducible first | exact HB.out | apply below_alloc | apply pw_below_drewN | apply below_drew1) | exact HB.out)) hb); clear HB; have HB := n0_; clear n0_; (try clear hb); (try clear hb2); (try clear hk); (try clear hi)) | (go_at_call 16; (with_reducible refine (safe_Sub.calls a1 a2 t182 _ A81.out).mono ?_); rintro e w96 ⟨rfl, hb⟩; have n0_ := Aside0.mk (below_step (by repeat (first | (with_reducible first | exact HB.out | apply below_alloc | apply pw_below_drewN | apply below_drew1) | exact HB.out)) hb); clear HB; have HB := n0_; clear n0_; (try clear hb); (try clear hb2); (try clear hk); (try clear hi)) | (go_at_call 16; (with_reducible refine (safe_Sub.calls a0 a2 t183 _ A82.out).mono ?_); rintro e w97 ⟨rfl, hb⟩; have n0_ := Aside0.mk (below_step (by repeat (first | (with_reducible first | exact HB.out | apply below_alloc | apply pw_below_drewN | apply below_drew1) | exact HB.out)) hb); clear HB; have HB := n0_; clear n0_; (try clear hb); (try clear hb2); (try clear hk); (try clear hi)) | (go_at_call 16; (with_reducible refine (safe_Sub.calls a2 a1 t184 _ A84.out).mono ?_); rintro e w98 ⟨rfl, hb⟩; have n0_ := Aside0.mk (below_step (by repeat (first | (with_reducible first | exact HB.out | apply below_alloc | apply pw_below_drewN | apply below_drew1) | exact HB.out)) hb); clear HB; have HB := n0_; clear n0_; (try clear hb); (try clear hb2); (try clear hk); (try clear hi)) | (go_at_call 16; (with_reducible refine (safe_Sub.calls a2 a0 t185 _ A85.out).mono ?_); rintro e w99 ⟨rfl, hb⟩; have n0_ := Aside0.mk (below_step (by repeat (first | (with_reducible first | exact HB.out | apply below_alloc | apply pw_below_drewN | apply below_drew1) | exact HB.out)) hb); clear HB; have HB := n0_; clear n0_; (try clear hb); (try clear hb2); (try clear hk); (try clear hi)) | (go_at_call 18; (with_reducible refine (safe_Mul.calls a1 0 t186 _ A87.out).mono ?_); rintro e w100 ⟨rfl, hb⟩; have n0_ := Aside0.mk (below_step (by repeat (first | (with_reducible first | exact HB.out | apply below_alloc | apply pw_below_drewN | apply below_drew1) | exact HB.out)) hb); clear HB; have HB := n0_; clear n0_; (try clear hb); (try clear hb2); (try clear hk); (try clear hi)) | (go_at_call 18; (with_reducible refine (safe_Mul.calls a0 0 t187 _ A88.out).mono ?_); rintro e w101 ⟨rfl, hb⟩; have n0_ := Aside0.mk (below_step (by repeat (first | (with_reducible first | exact HB.out | apply below_alloc | apply pw_below_drewN | apply below_drew1) | exact HB.out)) hb); clear HB; have HB := n0_; clear n0_; (try clear hb); (try clear hb2); (try clear hk); (try clear hi)))
                    go_ret
                    exact ⟨by first | rfl | (simp [errW_none, errW_some] <;> rfl) | (simp [*, errW_none, errW_some] <;> rfl), by repeat (first | (with_reducible first | exact HB.out | apply below_alloc | apply pw_below_drewN | apply below_drew1) | exact HB.out)⟩
                  · rw [if_neg c86] at H
                    have c86b0 : decide (t185 ≤ t184) = false := decide_eq_false c86
                    clear c86
                    exact absurd ((Option.some.inj H).trans hr_) (by simp)
                · rw [if_neg c83] at H
                  have c83b0 : decide (t182 ≤ t183) = false := decide_eq_false c83
                  clear c83
                  exact absurd ((Option.some.inj H).trans hr_) (by simp)
              · rw [if_neg c80] at H
                have c80b0 : decide (t180 ≤ t181) = false := decide_eq_false c80
                clear c80
                exact absurd ((Option.some.inj H).trans hr_) (by simp)
            · rw [if_neg c77] at H
              have c77b0 : (t178 == t179) = false := beq_eq_false_iff_ne.mpr c77
              have c77b1 : (t178 != t179) = true := bne_iff_ne.mpr c77
              exact absurd ((Option.some.inj H).trans hr_) (by simp)
          · rw [if_neg c74] at H
            have c74b0 : (t176 == t177) = false := beq_eq_false_iff_ne.mpr c74
            have c74b1 : (t176 != t177) = true := bne_iff_ne.mpr c74
            exact absurd ((Option.some.inj H).trans hr_) (by simp)
        · replace c71 := Bool.eq_false_iff.mpr c71
          subst c71
          have H1 : (some false) = some r := by rw [if_neg (show ¬ (false = true) by decide)] at H; exact H
          clear H
          have H := H1
          clear H1
          exact absurd ((Option.some.inj H).trans hr_) (by simp)
      · rw [if_neg c70] at H
        have c70i := eq_false c70
        have c70b0 : decide (a2 < 0) = false := decide_eq_false c70
        clear c70
        by_cases c102 : t151 = true
        · subst c102
          have H1 : ((safe_Add.f a0 a1).bind fun t188 => ((safe_Add.f a1 a0).bind fun t189 => (if t188 = t189 then ((safe_Mul.f a0 a1).bind fun t190 => ((safe_Mul.f a1 a0).bind fun t191 => (if t190 = t191 then ((safe_Add.f a1 a2).bind fun t192 => ((safe_Add.f a0 a2).bind fun t193 => (if t192 ≤ t193 then ((safe_Sub.f a1 a2).bind fun t194 => ((safe_Sub.f a0 a2).bind fun t195 => (if t194 ≤ t195 then ((safe_Sub.f a2 a1).bind fun t196 => ((safe_Sub.f a2 a0).bind fun t197 => (if t196 ≥ t197 then ((safe_Mul.f a1 a2).bind fun t198 => ((safe_Mul.f a0 a2).bind fun t199 => (some (decide (t198 ≤ t199))))) else (some false)))) else (some false)))) else (some false)))) else (some false)))) else (some false)))) = some r := by rw [if_pos rfl] at H; exact H
          clear H
          have H := H1
          clear H1
          replace H := Option.bind_eq_some_iff.mp H
          obtain ⟨t188, A1030, H⟩ := H
          replace H : ((safe_Add.f a1 a0).bind fun t189 => (if t188 = t189 then ((safe_Mul.f a0 a1).bind fun t190 => ((safe_Mul.f a1 a0).bind fun t191 => (if t190 = t191 then ((safe_Add.f a1 a2).bind fun t192 => ((safe_Add.f a0 a2).bind fun t193 => (if t192 ≤ t193 then ((safe_Sub.f a1 a2).bind fun t194 => ((safe_Sub.f a0 a2).bind fun t195 => (if t194 ≤ t195 then ((safe_Sub.f a2 a1).bind fun t196 => ((safe_Sub.f a2 a0).bind fun t197 => (if t196 ≥ t197 then ((safe_Mul.f a1 a2).bind fun t198 => ((safe_Mul.f a0 a2).bind fun t199 => (some (decide (t198 ≤ t199))))) else (some false)))) else (some false)))) else (some false)))) else (some false)))) else (some false))) = some r := H
          have A103 := Aside0.mk A1030
          clear A1030
          replace H := Option.bind_eq_some_iff.mp H
          obtain ⟨t189, A1040, H⟩ := H
          replace H : (if t188 = t189 then ((safe_Mul.f a0 a1).bind fun t190 => ((safe_Mul.f a1 a0).bind fun t191 => (if t190 = t191 then ((safe_Add.f a1 a2).bind fun t192 => ((safe_Add.f a0 a2).bind fun t193 => (if t192 ≤ t193 then ((safe_Sub.f a1 a2).bind fun t194 => ((safe_Sub.f a0 a2).bind fun t195 => (if t194 ≤ t195 then ((safe_Sub.f a2 a1).bind fun t196 => ((safe_Sub.f a2 a0).bind fun t197 => (if t196 ≥ t197 then ((safe_Mul.f a1 a2).bind fun t198 => ((safe_Mul.f a0 a2).bind fun t199 => (some (decide (t198 ≤ t199))))) else (some false)))) else (some false)))) else (some false)))) else (some false)))) else (some false)) = some r := H
          have A104 := Aside0.mk A1040
          clear A1040
          by_cases c105 : t188 = t189
          · rw [if_pos c105] at H
            have c105b0 : (t188 == t189) = true := beq_iff_eq.mpr c105
            have c105b1 : (t188 != t189) = false := bne_eq_false_iff_eq.mpr c105
            clear c105
            replace H := Option.bind_eq_some_iff.mp H
            obtain ⟨t190, A1060, H⟩ := H
            replace H : ((safe_Mul.f a1 a0).bind fun t191 => (if t190 = t191 then ((safe_Add.f a1 a2).bind fun t192 => ((safe_Add.f a0 a2).bind fun t193 => (if t192 ≤ t193 then ((safe_Sub.f a1 a2).bind fun t194 => ((safe_Sub.f a0 a2).bind fun t195 => (if t194 ≤ t195 then ((safe_Sub.f a2 a1).bind fun t196 => ((safe_Sub.f a2 a0).bind fun t197 => (if t196 ≥ t197 then ((safe_Mul.f a1 a2).bind fun t198 => ((safe_Mul.f a0 a2).bind fun t199 => (some (decide (t198 ≤ t199))))) else (some false)))) else (some false)))) else (some false)))) else (some false))) = some r := H
            have A106 := Aside0.mk A1060
            clear A1060
            replace H := Option.bind_eq_some_iff.mp H
            obtain ⟨t191, A1070, H⟩ := H
            replace H : (if t190 = t191 then ((safe_Add.f a1 a2).bind fun t192 => ((safe_Add.f a0 a2).bind fun t193 => (if t192 ≤ t193 then ((safe_Sub.f a1 a2).bind fun t194 => ((safe_Sub.f a0 a2).bind fun t195 => (if t194 ≤ t195 then ((safe_Sub.f a2 a1).bind fun t196 => ((safe_Sub.f a2 a0).bind fun t197 => (if t196 ≥ t197 then ((safe_Mul.f a1 a2).bind fun t198 => ((safe_Mul.f a0 a2).bind fun t199 => (some (decide (t198 ≤ t199))))) else (some false)))) else (some false)))) else (some false)))) else (some false)) = some r := H
            have A107 := Aside0.mk A1070
            clear A1070
            by_cases c108 : t190 = t191
            · rw [if_pos c108] at H
              have c108b0 : (t190 == t191) = true := beq_iff_eq.mpr c108
              have c108b1 : (t190 != t191) = false := bne_eq_false_iff_eq.mpr c108
              clear c108
              replace H := Option.bind_eq_some_iff.mp H
              obtain ⟨t192, A1090, H⟩ := H
              replace H : ((safe_Add.f a0 a2).bind fun t193 => (if t192 ≤ t193 then ((safe_Sub.f a1 a2).bind fun t194 => ((safe_Sub.f a0 a2).bind fun t195 => (if t194 ≤ t195 then ((safe_Sub.f a2 a1).bind fun t196 => ((safe_Sub.f a2 a0).bind fun t197 => (if t196 ≥ t197 then ((safe_Mul.f a1 a2).bind fun t198 => ((safe_Mul.f a0 a2).bind fun t199 => (some (decide (t198 ≤ t199))))) else (some false)))) else (some false)))) else (some false))) = some r := H
              have A109 := Aside0.mk A1090
              clear A1090
              replace H := Option.bind_eq_some_iff.mp H
              obtain ⟨t193, A1100, H⟩ := H
              replace H : (if t192 ≤ t193 then ((safe_Sub.f a1 a2).bind fun t194 => ((safe_Sub.f a0 a2).bind fun t195 => (if t194 ≤ t195 then ((safe_Sub.f a2 a1).bind fun t196 => ((safe_Sub.f a2 a0).bind fun t197 => (if t196 ≥ t197 then ((safe_Mul.f a1 a2).bind fun t198 => ((safe_Mul.f a0 a2).bind fun t199 => (some (decide (t198 ≤ t199))))) else (some false)))) else (some false)))) else (some false)) = some r := H
              have A110 := Aside0.mk A1100
              clear A1100
              by_cases c111 : t192 ≤ t193
              · rw [if_pos c111] at H
                have c111b0 : decide (t192 ≤ t193) = true := decide_eq_true c111
                clear c111
                replace H := Option.bind_eq_some_iff.mp H
                obtain ⟨t194, A1120, H⟩ := H
                replace H : ((safe_Sub.f a0 a2).bind fun t195 => (if t194 ≤ t195 then ((safe_Sub.f a2 a1).bind fun t196 => ((safe_Sub.f a2 a0).bind fun t197 => (if t196 ≥ t197 then ((safe_Mul.f a1 a2).bind fun t198 => ((safe_Mul.f a0 a2).bind fun t199 => (some (decide (t198 ≤ t199))))) else (some false)))) else (some false))) = some r := H
                have A112 := Aside0.mk A1120
                clear A1120
                replace H := Option.bind_eq_some_iff.mp H
                obtain ⟨t195, A1130, H⟩ := H
                replace H : (if t194 ≤ t195 then ((safe_Sub.f a2 a1).bind fun t196 => ((safe_Sub.f a2 a0).bind fun t197 => (if t196 ≥ t197 then ((safe_Mul.f a1 a2).bind fun t198 => ((safe_Mul.f a0 a2).bind fun t199 => (some (decide (t198 ≤ t199))))) else (some false)))) else (some false)) = some r := H
                have A113 := Aside0.mk A1130
                clear A1130
                by_cases c114 : t194 ≤ t195
                · rw [if_pos c114] at H
                  have c114b0 : decide (t194 ≤ t195) = true := decide_eq_true c114
                  clear c114
                  replace H := Option.bind_eq_some_iff.mp H
                  obtain ⟨t196, A1150, H⟩ := H
                  replace H : ((safe_Sub.f a2 a0).bind fun t197 => (if t196 ≥ t197 then ((safe_Mul.f a1 a2).bind fun t198 => ((safe_Mul.f a0 a2).bind fun t199 => (some (decide (t198 ≤ t199))))) else (some false))) = some r := H
                  have A115 := Aside0.mk A1150
                  clear A1150
                  replace H := Option.bind_eq_some_iff.mp H
                  obtain ⟨t197, A1160, H⟩ := H
                  replace H : (if t196 ≥ t197 then ((safe_Mul.f a1 a2).bind fun t198 => ((safe_Mul.f a0 a2).bind fun t199 => (some (decide (t198 ≤ t199))))) else (some false)) = some r := H
                  have A116 := Aside0.mk A1160
                  clear A1160
                  by_cases c117 : t196 ≥ t197
                  · rw [if_pos c117] at H
                    have c117b0 : decide (t197 ≤ t196) = true := decide_eq_true c117
                    clear c117
                    replace H := Option.bind_eq_some_iff.mp H
                    obtain ⟨t198, A1180, H⟩ := H
                    replace H : ((safe_Mul.f a0 a2).bind fun t199 => (some (decide (t198 ≤ t199)))) = some r := H
                    have A118 := Aside0.mk A1180
                    clear A1180
                    replace H := Option.bind_eq_some_iff.mp H
                    obtain ⟨t199, A1190, H⟩ := H
                    replace H : (some (decide (t198 ≤ t199))) = some r := H
                    have A119 := Aside0.mk A1190
                    clear A1190
                    obtain rfl := Option.some.inj H
                    go_enter Try.func5, Try.ntmps5
                    go_wp2_with (first | ((with_reducible refine gate_callee (f := 9) rfl ?_); refine goesL_ (some 11) rfl rfl Try.func9 (by kernel_rfl) rfl #[] rfl (by (try simp only [List.map_toArray, List.map_cons, List.map_nil]); first | done | rfl | (simp only [List.length_drop, List.length_take]; rfl)) ?_; (with_reducible refine (sawtoothlaw01_awake.calls  true _ A4.out).mono ?_); rintro e w120 ⟨rfl, hb⟩; refine ⟨_, rfl, ?_⟩; have n0_ := Aside0.mk (below_step (by repeat (first | (with_reducible first | exact HB.out | apply below_alloc | apply pw_below_drewN | apply below_drew1) | exact HB.out)) hb); clear HB; have HB := n0_; clear n0_; (try clear hb); (try clear hb2); (try clear hk); (try clear hi)) | (go_at_call 14; (with_reducible refine (safe_Add.calls a0 a1 t188 _ A103.out).mono ?_); rintro e w121 ⟨rfl, hb⟩; have n0_ := Aside0.mk (below_step (by repeat (first | (with_reducible first | exact HB.out | apply below_alloc | apply pw_below_drewN | apply below_drew1) | exact HB.out)) hb); clear HB; have HB := n0_; clear n0_; (try clear hb); (try clear hb2); (try clear hk); (try clear hi)) | (go_at_call 14; (with_reducible refine (safe_Add.calls a1 a0 t189 _ A104.out).mono ?_); rintro e w122 ⟨rfl, hb⟩; have n0_ := Aside0.mk (below_step (by repeat (first | (with_reducible first | exact HB.out | apply below_alloc | apply pw_below_drewN | apply below_drew1) | exact HB.out)) hb); clear HB; have HB := n0_; clear n0_; (try clear hb); (try clear hb2); (try clear hk); (try clear hi)) | (go_at_call 18; (with_reducible refine (safe_Mul.calls a0 a1 t190 _ A106.out).mono ?_); rintro e w123 ⟨rfl, hb⟩; have n0_ := Aside0.mk (below_step (by repeat (first | (with_reducible first | exact HB.out | apply below_alloc | apply pw_below_drewN | apply below_drew1) | exact HB.out)) hb); clear HB; have HB := n0_; clear n0_; (try clear hb); (try clear hb2); (try clear hk); (try clear hi)) | (go_at_call 18; (with_reducible refine (safe_Mul.calls a1 a0 t191 _ A107.out).mono ?_); rintro e w124 ⟨rfl, hb⟩; have n0_ := Aside0.mk (below_step (by repeat (first | (with_reducible first | exact HB.out | apply below_alloc | apply pw_below_drewN | apply below_drew1) | exact HB.out)) hb); clear HB; have HB := n0_; clear n0_; (try clear hb); (try clear hb2); (try clear hk); (try clear hi)) | (go_at_call 14; (with_reducible refine (safe_Add.calls a1 a2 t192 _ A109.out).mono ?_); rintro e w125 ⟨rfl, hb⟩; have n0_ := Aside0.mk (below_step (by repeat (first | (with_reducible first | exact HB.out | apply below_alloc | apply pw_below_drewN | apply below_drew1) | exact HB.out)) hb); clear HB; have HB := n0_; clear n0_; (try clear hb); (try clear hb2); (try clear hk); (try clear hi)) | (go_at_call 14; (with_reducible refine (safe_Add.calls a0 a2 t193 _ A110.out).mono ?_); rintro e w126 ⟨rfl, hb⟩; have n0_ := Aside0.mk (below_step (by repeat (first | (with_reducible first | exact HB.out | apply below_alloc | apply pw_below_drewN | apply below_drew1) | exact HB.out)) hb); clear HB; have HB := n0_; clear n0_; (try clear hb); (try clear hb2); (try clear hk); (try clear hi)) | (go_at_call 16; (with_reducible refine (safe_Sub.calls a1 a2 t194 _ A112.out).mono ?_); rintro e w127 ⟨rfl, hb⟩; have n0_ := Aside0.mk (below_step (by repeat (first | (with_reducible first | exact HB.out | apply below_alloc | apply pw_below_drewN | apply below_drew1) | exact HB.out)) hb); clear HB; have HB := n0_; clear n0_; (try clear hb); (try clear hb2); (try clear hk); (try clear hi)) | (go_at_call 16; (with_reducible refine (safe_Sub.calls a0 a2 t195 _ A113.out).mono ?_); rintro e w128 ⟨rfl, hb⟩; have n0_ := Aside0.mk (below_step (by repeat (first | (with_reducible first | exact HB.out | apply below_alloc | apply pw_below_drewN | apply below_drew1) | exact HB.out)) hb); clear HB; have HB := n0_; clear n0_; (try clear hb); (try clear hb2); (try clear hk); (try clear hi)) | (go_at_call 16; (with_reducible refine (safe_Sub.calls a2 a1 t196 _ A115.out).mono ?_); rintro e w129 ⟨rfl, hb⟩; have n0_ := Aside0.mk (below_step (by repeat (first | (with_reducible first | exact HB.out | apply below_alloc | apply pw_below_drewN | apply below_drew1) | exact HB.out)) hb); clear HB; have HB := n0_; clear n0_; (try clear hb); (try clear hb2); (try clear hk); (try clear hi)) | (go_at_call 16; (with_reducible refine (safe_Sub.calls a2 a0 t197 _ A116.out).mono ?_); rintro e w130 ⟨rfl, hb⟩; have n0_ := Aside0.mk (below_step (by repeat (first | (with_reducible first | exact HB.out | apply below_alloc | apply pw_below_drewN | apply below_drew1) | exact HB.out)) hb); clear HB; have HB := n0_; clear n0_; (try clear hb); (try clear hb2); (try clear hk); (try clear hi)) | (go_at_call 18; (with_reducible refine (safe_Mul.calls a1 a2 t198 _ A118.out).mono ?_); rintro e w131 ⟨rfl, hb⟩; have n0_ := Aside0.mk (below_step (by repeat (first | (with_reducible first | exact HB.out | apply below_alloc | apply pw_below_drewN | apply below_drew1) | exact HB.out)) hb); clear HB; have HB := n0_; clear n0_; (try clear hb); (try clear hb2); (try clear hk); (try clear hi)) | (go_at_call 18; (with_reducible refine (safe_Mul.calls a0 a2 t199 _ A119.out).mono ?_); rintro e w132 ⟨rfl, hb⟩; have n0_ := Aside0.mk (below_step (by repeat (first | (with_reducible first | exact HB.out | apply below_alloc | apply pw_below_drewN | apply below_drew1) | exact HB.out)) hb); clear HB; have HB := n0_; clear n0_; (try clear hb); (try clear hb2); (try clear hk); (try clear hi)))
                    go_ret
                    exact ⟨by first | rfl | (simp [errW_none, errW_some] <;> rfl) | (simp [*, errW_none, errW_some] <;> rfl), by repeat (first | (with_reducible first | exact HB.out | apply below_alloc | apply pw_below_drewN | apply below_drew1) | exact HB.out)⟩
                  · rw [if_neg c117] at H
                    have c117b0 : decide (t197 ≤ t196) = false := decide_eq_false c117
                    clear c117
                    exact absurd ((Option.some.inj H).trans hr_) (by simp)
                · rw [if_neg c114] at H
                  have c114b0 : decide (t194 ≤ t195) = false := decide_eq_false c114
                  clear c114
                  exact absurd ((Option.some.inj H).trans hr_) (by simp)
              · rw [if_neg c111] at H
                have c111b0 : decide (t192 ≤ t193) = false := decide_eq_false c111
                clear c111
                exact absurd ((Option.some.inj H).trans hr_) (by simp)
            · rw [if_neg c108] at H
              have c108b0 : (t190 == t191) = false := beq_eq_false_iff_ne.mpr c108
              have c108b1 : (t190 != t191) = true := bne_iff_ne.mpr c108
              exact absurd ((Option.some.inj H).trans hr_) (by simp)
          · rw [if_neg c105] at H
            have c105b0 : (t188 == t189) = false := beq_eq_false_iff_ne.mpr c105
            have c105b1 : (t188 != t189) = true := bne_iff_ne.mpr c105
            exact absurd ((Option.some.inj H).trans hr_) (by simp)
        · replace c102 := Bool.eq_false_iff.mpr c102
          subst c102
          have H1 : (some false) = some r := by rw [if_neg (show ¬ (false = true) by decide)] at H; exact H
          clear H
          have H := H1
          clear H1
          exact absurd ((Option.some.inj H).trans hr_) (by simp)
  · rw [if_neg c5] at H
    have c5i := eq_false c5
    have c5b0 : decide (a1 < a0) = false := decide_eq_false c5
    clear c5
    by_cases c133 : a0 < a1
    · rw [if_pos c133] at H
      have c133i := eq_true c133
      have c133b0 : decide (a0 < a1) = true := decide_eq_true c133
      clear c133
      by_cases c134 : a2 < 0
      · rw [if_pos c134] at H
        have c134i := eq_true c134
        have c134b0 : decide (a2 < 0) = true := decide_eq_true c134
        clear c134
        by_cases c135 : t151 = true
        · subst c135
          have H1 : ((safe_Add.f a0 a1).bind fun t200 => ((safe_Add.f a1 a0).bind fun t201 => (if t200 = t201 then ((safe_Mul.f a0 a1).bind fun t202 => ((safe_Mul.f a1 a0).bind fun t203 => (if t202 = t203 then ((safe_Add.f a0 a2).bind fun t204 => ((safe_Add.f a1 a2).bind fun t205 => (if t204 ≤ t205 then ((safe_Sub.f a0 a2).bind fun t206 => ((safe_Sub.f a1 a2).bind fun t207 => (if t206 ≤ t207 then ((safe_Sub.f a2 a0).bind fun t208 => ((safe_Sub.f a2 a1).bind fun t209 => (if t208 ≥ t209 then ((safe_Mul.f a0 0).bind fun t210 => ((safe_Mul.f a1 0).bind fun t211 => (some (decide (t210 ≤ t211))))) else (some false)))) else (some false)))) else (some false)))) else (some false)))) else (some false)))) = some r := by rw [if_pos rfl] at H; exact H
          clear H
          have H := H1
          clear H1
          replace H := Option.bind_eq_some_iff.mp H
          obtain ⟨t200, A1360, H⟩ := H
          replace H : ((safe_Add.f a1 a0).bind fun t201 => (if t200 = t201 then ((safe_Mul.f a0 a1).bind fun t202 => ((safe_Mul.f a1 a0).bind fun t203 => (if t202 = t203 then ((safe_Add.f a0 a2).bind fun t204 => ((safe_Add.f a1 a2).bind fun t205 => (if t204 ≤ t205 then ((safe_Sub.f a0 a2).bind fun t206 => ((safe_Sub.f a1 a2).bind fun t207 => (if t206 ≤ t207 then ((safe_Sub.f a2 a0).bind fun t208 => ((safe_Sub.f a2 a1).bind fun t209 => (if t208 ≥ t209 then ((safe_Mul.f a0 0).bind fun t210 => ((safe_Mul.f a1 0).bind fun t211 => (some (decide (t210 ≤ t211))))) else (some false)))) else (some false)))) else (some false)))) else (some false)))) else (some false))) = some r := H
          have A136 := Aside0.mk A1360
          clear A1360
          replace H := Option.bind_eq_some_iff.mp H
          obtain ⟨t201, A1370, H⟩ := H
          replace H : (if t200 = t201 then ((safe_Mul.f a0 a1).bind fun t202 => ((safe_Mul.f a1 a0).bind fun t203 => (if t202 = t203 then ((safe_Add.f a0 a2).bind fun t204 => ((safe_Add.f a1 a2).bind fun t205 => (if t204 ≤ t205 then ((safe_Sub.f a0 a2).bind fun t206 => ((safe_Sub.f a1 a2).bind fun t207 => (if t206 ≤ t207 then ((safe_Sub.f a2 a0).bind fun t208 => ((safe_Sub.f a2 a1).bind fun t209 => (if t208 ≥ t209 then ((safe_Mul.f a0 0).bind fun t210 => ((safe_Mul.f a1 0).bind fun t211 => (some (decide (t210 ≤ t211))))) else (some false)))) else (some false)))) else (some false)))) else (some false)))) else (some false)) = some r := H
          have A137 := Aside0.mk A1370
          clear A1370
          by_cases c138 : t200 = t201
          · rw [if_pos c138] at H
            have c138b0 : (t200 == t201) = true := beq_iff_eq.mpr c138
            have c138b1 : (t200 != t201) = false := bne_eq_false_iff_eq.mpr c138
            clear c138
            replace H := Option.bind_eq_some_iff.mp H
            obtain ⟨t202, A1390, H⟩ := H
            replace H : ((safe_Mul.f a1 a0).bind fun t203 => (if t202 = t203 then ((safe_Add.f a0 a2).bind fun t204 => ((safe_Add.f a1 a2).bind fun t205 => (if t204 ≤ t205 then ((safe_Sub.f a0 a2).bind fun t206 => ((safe_Sub.f a1 a2).bind fun t207 => (if t206 ≤ t207 then ((safe_Sub.f a2 a0).bind fun t208 => ((safe_Sub.f a2 a1).bind fun t209 => (if t208 ≥ t209 then ((safe_Mul.f a0 0).bind fun t210 => ((safe_Mul.f a1 0).bind fun t211 => (some (decide (t210 ≤ t211))))) else (some false)))) else (some false)))) else (some false)))) else (some false))) = some r := H
            have A139 := Aside0.mk A1390
            clear A1390
            replace H := Option.bind_eq_some_iff.mp H
            obtain ⟨t203, A1400, H⟩ := H
            replace H : (if t202 = t203 then ((safe_Add.f a0 a2).bind fun t204 => ((safe_Add.f a1 a2).bind fun t205 => (if t204 ≤ t205 then ((safe_Sub.f a0 a2).bind fun t206 => ((safe_Sub.f a1 a2).bind fun t207 => (if t206 ≤ t207 then ((safe_Sub.f a2 a0).bind fun t208 => ((safe_Sub.f a2 a1).bind fun t209 => (if t208 ≥ t209 then ((safe_Mul.f a0 0).bind fun t210 => ((safe_Mul.f a1 0).bind fun t211 => (some (decide (t210 ≤ t211))))) else (some false)))) else (some false)))) else (some false)))) else (some false)) = some r := H
            have A140 := Aside0.mk A1400
            clear A1400
            by_cases c141 : t202 = t203
            · rw [if_pos c141] at H
              have c141b0 : (t202 == t203) = true := beq_iff_eq.mpr c141
              have c141b1 : (t202 != t203) = false := bne_eq_false_iff_eq.mpr c141
              clear c141
              replace H := Option.bind_eq_some_iff.mp H
              obtain ⟨t204, A1420, H⟩ := H
              replace H : ((safe_Add.f a1 a2).bind fun t205 => (if t204 ≤ t205 then ((safe_Sub.f a0 a2).bind fun t206 => ((safe_Sub.f a1 a2).bind fun t207 => (if t206 ≤ t207 then ((safe_Sub.f a2 a0).bind fun t208 => ((safe_Sub.f a2 a1).bind fun t209 => (if t208 ≥ t209 then ((safe_Mul.f a0 0).bind fun t210 => ((safe_Mul.f a1 0).bind fun t211 => (some (decide (t210 ≤ t211))))) else (some false)))) else (some false)))) else (some false))) = some r := H
              have A142 := Aside0.mk A1420
              clear A1420
              replace H := Option.bind_eq_some_iff.mp H
              obtain ⟨t205, A1430, H⟩ := H
              replace H : (if t204 ≤ t205 then ((safe_Sub.f a0 a2).bind fun t206 => ((safe_Sub.f a1 a2).bind fun t207 => (if t206 ≤ t207 then ((safe_Sub.f a2 a0).bind fun t208 => ((safe_Sub.f a2 a1).bind fun t209 => (if t208 ≥ t209 then ((safe_Mul.f a0 0).bind fun t210 => ((safe_Mul.f a1 0).bind fun t211 => (some (decide (t210 ≤ t211))))) else (some false)))) else (some false)))) else (some false)) = some r := H
              have A143 := Aside0.mk A1430
              clear A1430
              by_cases c144 : t204 ≤ t205
              · rw [if_pos c144] at H
                have c144b0 : decide (t204 ≤ t205) = true := decide_eq_true c144
                clear c144
                replace H := Option.bind_eq_some_iff.mp H
                obtain ⟨t206, A1450, H⟩ := H
                replace H : ((safe_Sub.f a1 a2).bind fun t207 => (if t206 ≤ t207 then ((safe_Sub.f a2 a0).bind fun t208 => ((safe_Sub.f a2 a1).bind fun t209 => (if t208 ≥ t209 then ((safe_Mul.f a0 0).bind fun t210 => ((safe_Mul.f a1 0).bind fun t211 => (some (decide (t210 ≤ t211))))) else (some false)))) else (some false))) = some r := H
                have A145 := Aside0.mk A1450
                clear A1450
                replace H := Option.bind_eq_some_iff.mp H
                obtain ⟨t207, A1460, H⟩ := H
                replace H : (if t206 ≤ t207 then ((safe_Sub.f a2 a0).bind fun t208 => ((safe_Sub.f a2 a1).bind fun t209 => (if t208 ≥ t209 then ((safe_Mul.f a0 0).bind fun t210 => ((safe_Mul.f a1 0).bind fun t211 => (some (decide (t210 ≤ t211))))) else (some false)))) else (some false)) = some r := H
                have A146 := Aside0.mk A1460
                clear A1460
                by_cases c147 : t206 ≤ t207
                · rw [if_pos c147] at H
                  have c147b0 : decide (t206 ≤ t207) = true := decide_eq_true c147
                  clear c147
                  replace H := Option.bind_eq_some_iff.mp H
                  obtain ⟨t208, A1480, H⟩ := H
                  replace H : ((safe_Sub.f a2 a1).bind fun t209 => (if t208 ≥ t209 then ((safe_Mul.f a0 0).bind fun t210 => ((safe_Mul.f a1 0).bind fun t211 => (some (decide (t210 ≤ t211))))) else (some false))) = some r := H
                  have A148 := Aside0.mk A1480
                  clear A1480
                  replace H := Option.bind_eq_some_iff.mp H
                  obtain ⟨t209, A1490, H⟩ := H
                  replace H : (if t208 ≥ t209 then ((safe_Mul.f a0 0).bind fun t210 => ((safe_Mul.f a1 0).bind fun t211 => (some (decide (t210 ≤ t211))))) else (some false)) = some r := H
                  have A149 := Aside0.mk A1490
                  clear A1490
                  by_cases c150 : t208 ≥ t209
                  · rw [if_pos c150] at H
                    have c150b0 : decide (t209 ≤ t208) = true := decide_eq_true c150
                    clear c150
                    replace H := Option.bind_eq_some_iff.mp H
                    obtain ⟨t210, A1510, H⟩ := H
                    replace H : ((safe_Mul.f a1 0).bind fun t211 => (some (decide (t210 ≤ t211)))) = some r := H
                    have A151 := Aside0.mk A1510
                    clear A1510
                    replace H := Option.bind_eq_some_iff.mp H
                    obtain ⟨t211, A1520, H⟩ := H
                    replace H : (some (decide (t210 ≤ t211))) = some r := H
                    have A152 := Aside0.mk A1520
                    clear A1520
                    obtain rfl := Option.some.inj H
                    go_enter Try.func5, Try.ntmps5
                    go_wp2_with (first | ((with_reducible refine gate_callee (f := 9) rfl ?_); refine goesL_ (some 11) rfl rfl Try.func9 (by kernel_rfl) rfl #[] rfl (by (try simp only [List.map_toArray, List.map_cons, List.map_nil]); first | done | rfl | (simp only [List.length_drop, List.length_take]; rfl)) ?_; (with_reducible refine (sawtoothlaw01_awake.calls  true _ A4.out).mono ?_); rintro e w153 ⟨rfl, hb⟩; refine ⟨_, rfl, ?_⟩; have n0_ := Aside0.mk (below_step (by repeat (first | (with_reducible first | exact HB.out | apply below_alloc | apply pw_below_drewN | apply below_drew1) | exact HB.out)) hb); clear HB; have HB := n0_; clear n0_; (try clear hb); (try clear hb2); (try clear hk); (try clear hi)) | (go_at_call 14; (with_reducible refine (safe_Add.calls a0 a1 t200 _ A136.out).mono ?_); rintro e w154 ⟨rfl, hb⟩; have n0_ := Aside0.mk (below_step (by repeat (first | (with_reducible first | exact HB.out | apply below_alloc | apply pw_below_drewN | apply below_drew1) | exact HB.out)) hb); clear HB; have HB := n0_; clear n0_; (try clear hb); (try clear hb2); (try clear hk); (try clear hi)) | (go_at_call 14; (with_reducible refine (safe_Add.calls a1 a0 t201 _ A137.out).mono ?_); rintro e w155 ⟨rfl, hb⟩; have n0_ := Aside0.mk (below_step (by repeat (first | (with_reducible first | exact HB.out | apply below_alloc | apply pw_below_drewN | apply below_drew1) | exact HB.out)) hb); clear HB; have HB := n0_; clear n0_; (try clear hb); (try clear hb2); (try clear hk); (try clear hi)) | (go_at_call 18; (with_reducible refine (safe_Mul.calls a0 a1 t202 _ A139.out).mono ?_); rintro e w156 ⟨rfl, hb⟩; have n0_ := Aside0.mk (below_step (by repeat (first | (with_reducible first | exact HB.out | apply below_alloc | apply pw_below_drewN | apply below_drew1) | exact HB.out)) hb); clear HB; have HB := n0_; clear n0_; (try clear hb); (try clear hb2); (try clear hk); (try clear hi)) | (go_at_call 18; (with_reducible refine (safe_Mul.calls a1 a0 t203 _ A140.out).mono ?_); rintro e w157 ⟨rfl, hb⟩; have n0_ := Aside0.mk (below_step (by repeat (first | (with_reducible first | exact HB.out | apply below_alloc | apply pw_below_drewN | apply below_drew1) | exact HB.out)) hb); clear HB; have HB := n0_; clear n0_; (try clear hb); (try clear hb2); (try clear hk); (try clear hi)) | (go_at_call 14; (with_reducible refine (safe_Add.calls a0 a2 t204 _ A142.out).mono ?_); rintro e w158 ⟨rfl, hb⟩; have n0_ := Aside0.mk (below_step (by repeat (first | (with_reducible first | exact HB.out | apply below_alloc | apply pw_below_drewN | apply below_drew1) | exact HB.out)) hb); clear HB; have HB := n0_; clear n0_; (try clear hb); (try clear hb2); (try clear hk); (try clear hi)) | (go_at_call 14; (with_reducible refine (safe_Add.calls a1 a2 t205 _ A143.out).mono ?_); rintro e w159 ⟨rfl, hb⟩; have n0_ := Aside0.mk (below_step (by repeat (first | (with_reducible first | exact HB.out | apply below_alloc | apply pw_below_drewN | apply below_drew1) | exact HB.out)) hb); clear HB; have HB := n0_; clear n0_; (try clear hb); (try clear hb2); (try clear hk); (try clear hi)) | (go_at_call 16; (with_reducible refine (safe_Sub.calls a0 a2 t206 _ A145.out).mono ?_); rintro e w160 ⟨rfl, hb⟩; have n0_ := Aside0.mk (below_step (by repeat (first | (with_reducible first | exact HB.out | apply below_alloc | apply pw_below_drewN | apply below_drew1) | exact HB.out)) hb); clear HB; have HB := n0_; clear n0_; (try clear hb); (try clear hb2); (try clear hk); (try clear hi)) | (go_at_call 16; (with_reducible refine (safe_Sub.calls a1 a2 t207 _ A146.out).mono ?_); rintro e w161 ⟨rfl, hb⟩; have n0_ := Aside0.mk (below_step (by repeat (first | (with_reducible first | exact HB.out | apply below_alloc | apply pw_below_drewN | apply below_drew1) | exact HB.out)) hb); clear HB; have HB := n0_; clear n0_; (try clear hb); (try clear hb2); (try clear hk); (try clear hi)) | (go_at_call 16; (with_reducible refine (safe_Sub.calls a2 a0 t208 _ A148.out).mono ?_); rintro e w162 ⟨rfl, hb⟩; have n0_ := Aside0.mk (below_step (by repeat (first | (with_reducible first | exact HB.out | apply below_alloc | apply pw_below_drewN | apply below_drew1) | exact HB.out)) hb); clear HB; have HB := n0_; clear n0_; (try clear hb); (try clear hb2); (try clear hk); (try clear hi)) | (go_at_call 16; (with_reducible refine (safe_Sub.calls a2 a1 t209 _ A149.out).mono ?_); rintro e w163 ⟨rfl, hb⟩; have n0_ := Aside0.mk (below_step (by repeat (first | (with_reducible first | exact HB.out | apply below_alloc | apply pw_below_drewN | apply below_drew1) | exact HB.out)) hb); clear HB; have HB := n0_; clear n0_; (try clear hb); (try clear hb2); (try clear hk); (try clear hi)) | (go_at_call 18; (with_reducible refine (safe_Mul.calls a0 0 t210 _ A151.out).mono ?_); rintro e w164 ⟨rfl, hb⟩; have n0_ := Aside0.mk (below_step (by repeat (first | (with_reducible first | exact HB.out | apply below_alloc | apply pw_below_drewN | apply below_drew1) | exact HB.out)) hb); clear HB; have HB := n0_; clear n0_; (try clear hb); (try clear hb2); (try clear hk); (try clear hi)) | (go_at_call 18; (with_reducible refine (safe_Mul.calls a1 0 t211 _ A152.out).mono ?_); rintro e w165 ⟨rfl, hb⟩; have n0_ := Aside0.mk (below_step (by repeat (first | (with_reducible first | exact HB.out | apply below_alloc | apply pw_below_drewN | apply below_drew1) | exact HB.out)) hb); clear HB; have HB := n0_; clear n0_; (try clear hb); (try clear hb2); (try clear hk); (try clear hi)))
                    go_ret
                    exact ⟨by first | rfl | (simp [errW_none, errW_some] <;> rfl) | (simp [*, errW_none, errW_some] <;> rfl), by repeat (first | (with_reducible first | exact HB.out | apply below_alloc | apply pw_below_drewN | apply below_drew1) | exact HB.out)⟩
                  · rw [if_neg c150] at H
                    have c150b0 : decide (t209 ≤ t208) = false := decide_eq_false c150
                    clear c150
                    exact absurd ((Option.some.inj H).trans hr_) (by simp)
                · rw [if_neg c147] at H
                  have c147b0 : decide (t206 ≤ t207) = false := decide_eq_false c147
                  clear c147
                  exact absurd ((Option.some.inj H).trans hr_) (by simp)
              · rw [if_neg c144] at H
                have c144b0 : decide (t204 ≤ t205) = false := decide_eq_false c144
                clear c144
                exact absurd ((Option.some.inj H).trans hr_) (by simp)
            · rw [if_neg c141] at H
              have c141b0 : (t202 == t203) = false := beq_eq_false_iff_ne.mpr c141
              have c141b1 : (t202 != t203) = true := bne_iff_ne.mpr c141
              exact absurd ((Option.some.inj H).trans hr_) (by simp)
          · rw [if_neg c138] at H
            have c138b0 : (t200 == t201) = false := beq_eq_false_iff_ne.mpr c138
            have c138b1 : (t200 != t201) = true := bne_iff_ne.mpr c138
            exact absurd ((Option.some.inj H).trans hr_) (by simp)
        · replace c135 := Bool.eq_false_iff.mpr c135
          subst c135
          have H1 : (some false) = some r := by rw [if_neg (show ¬ (false = true) by decide)] at H; exact H
          clear H
          have H := H1
          clear H1
          exact absurd ((Option.some.inj H).trans hr_) (by simp)
      · rw [if_neg c134] at H
        have c134i := eq_false c134
        have c134b0 : decide (a2 < 0) = false := decide_eq_false c134
        clear c134
        by_cases c166 : t151 = true
        · subst c166
          have H1 : ((safe_Add.f a0 a1).bind fun t212 => ((safe_Add.f a1 a0).bind fun t213 => (if t212 = t213 then ((safe_Mul.f a0 a1).bind fun t214 => ((safe_Mul.f a1 a0).bind fun t215 => (if t214 = t215 then ((safe_Add.f a0 a2).bind fun t216 => ((safe_Add.f a1 a2).bind fun t217 => (if t216 ≤ t217 then ((safe_Sub.f a0 a2).bind fun t218 => ((safe_Sub.f a1 a2).bind fun t219 => (if t218 ≤ t219 then ((safe_Sub.f a2 a0).bind fun t220 => ((safe_Sub.f a2 a1).bind fun t221 => (if t220 ≥ t221 then ((safe_Mul.f a0 a2).bind fun t222 => ((safe_Mul.f a1 a2).bind fun t223 => (some (decide (t222 ≤ t223))))) else (some false)))) else (some false)))) else (some false)))) else (some false)))) else (some false)))) = some r := by rw [if_pos rfl] at H; exact H
          clear H
          have H := H1
          clear H1
          replace H := Option.bind_eq_some_iff.mp H
          obtain ⟨t212, A1670, H⟩ := H
          replace H : ((safe_Add.f a1 a0).bind fun t213 => (if t212 = t213 then ((safe_Mul.f a0 a1).bind fun t214 => ((safe_Mul.f a1 a0).bind fun t215 => (if t214 = t215 then ((safe_Add.f a0 a2).bind fun t216 => ((safe_Add.f a1 a2).bind fun t217 => (if t216 ≤ t217 then ((safe_Sub.f a0 a2).bind fun t218 => ((safe_Sub.f a1 a2).bind fun t219 => (if t218 ≤ t219 then ((safe_Sub.f a2 a0).bind fun t220 => ((safe_Sub.f a2 a1).bind fun t221 => (if t220 ≥ t221 then ((safe_Mul.f a0 a2).bind fun t222 => ((safe_Mul.f a1 a2).bind fun t223 => (some (decide (t222 ≤ t223))))) else (some false)))) else (some false)))) else (some false)))) else (some false)))) else (some false))) = some r := H
          have A167 := Aside0.mk A1670
          clear A1670
          replace H := Option.bind_eq_some_iff.mp H
          obtain ⟨t213, A1680, H⟩ := H
          replace H : (if t212 = t213 then ((safe_Mul.f a0 a1).bind fun t214 => ((safe_Mul.f a1 a0).bind fun t215 => (if t214 = t215 then ((safe_Add.f a0 a2).bind fun t216 => ((safe_Add.f a1 a2).bind fun t217 => (if t216 ≤ t217 then ((safe_Sub.f a0 a2).bind fun t218 => ((safe_Sub.f a1 a2).bind fun t219 => (if t218 ≤ t219 then ((safe_Sub.f a2 a0).bind fun t220 => ((safe_Sub.f a2 a1).bind fun t221 => (if t220 ≥ t221 then ((safe_Mul.f a0 a2).bind fun t222 => ((safe_Mul.f a1 a2).bind fun t223 => (some (decide (t222 ≤ t223))))) else (some false)))) else (some false)))) else (some false)))) else (some false)))) else (some false)) = some r := H
          have A168 := Aside0.mk A1680
          clear A1680
          by_cases c169 : t212 = t213
          · rw [if_pos c169] at H
            have c169b0 : (t212 == t213) = true := beq_iff_eq.mpr c169
            have c169b1 : (t212 != t213) = false := bne_eq_false_iff_eq.mpr c169
            clear c169
            replace H := Option.bind_eq_some_iff.mp H
            obtain ⟨t214, A1700, H⟩ := H
            replace H : ((safe_Mul.f a1 a0).bind fun t215 => (if t214 = t215 then ((safe_Add.f a0 a2).bind fun t216 => ((safe_Add.f a1 a2).bind fun t217 => (if t216 ≤ t217 then ((safe_Sub.f a0 a2).bind fun t218 => ((safe_Sub.f a1 a2).bind fun t219 => (if t218 ≤ t219 then ((safe_Sub.f a2 a0).bind fun t220 => ((safe_Sub.f a2 a1).bind fun t221 => (if t220 ≥ t221 then ((safe_Mul.f a0 a2).bind fun t222 => ((safe_Mul.f a1 a2).bind fun t223 => (some (decide (t222 ≤ t223))))) else (some false)))) else (some false)))) else (some false)))) else (some false))) = some r := H
            have A170 := Aside0.mk A1700
            clear A1700
            replace H := Option.bind_eq_some_iff.mp H
            obtain ⟨t215, A1710, H⟩ := H
            replace H : (if t214 = t215 then ((safe_Add.f a0 a2).bind fun t216 => ((safe_Add.f a1 a2).bind fun t217 => (if t216 ≤ t217 then ((safe_Sub.f a0 a2).bind fun t218 => ((safe_Sub.f a1 a2).bind fun t219 => (if t218 ≤ t219 then ((safe_Sub.f a2 a0).bind fun t220 => ((safe_Sub.f a2 a1).bind fun t221 => (if t220 ≥ t221 then ((safe_Mul.f a0 a2).bind fun t222 => ((safe_Mul.f a1 a2).bind fun t223 => (some (decide (t222 ≤ t223))))) else (some false)))) else (some false)))) else (some false)))) else (some false)) = some r := H
            have A171 := Aside0.mk A1710
            clear A1710
            by_cases c172 : t214 = t215
            · rw [if_pos c172] at H
              have c172b0 : (t214 == t215) = true := beq_iff_eq.mpr c172
              have c172b1 : (t214 != t215) = false := bne_eq_false_iff_eq.mpr c172
              clear c172
              replace H := Option.bind_eq_some_iff.mp H
              obtain ⟨t216, A1730, H⟩ := H
              replace H : ((safe_Add.f a1 a2).bind fun t217 => (if t216 ≤ t217 then ((safe_Sub.f a0 a2).bind fun t218 => ((safe_Sub.f a1 a2).bind fun t219 => (if t218 ≤ t219 then ((safe_Sub.f a2 a0).bind fun t220 => ((safe_Sub.f a2 a1).bind fun t221 => (if t220 ≥ t221 then ((safe_Mul.f a0 a2).bind fun t222 => ((safe_Mul.f a1 a2).bind fun t223 => (some (decide (t222 ≤ t223))))) else (some false)))) else (some false)))) else (some false))) = some r := H
              have A173 := Aside0.mk A1730
              clear A1730
              replace H := Option.bind_eq_some_iff.mp H
              obtain ⟨t217, A1740, H⟩ := H
              replace H : (if t216 ≤ t217 then ((safe_Sub.f a0 a2).bind fun t218 => ((safe_Sub.f a1 a2).bind fun t219 => (if t218 ≤ t219 then ((safe_Sub.f a2 a0).bind fun t220 => ((safe_Sub.f a2 a1).bind fun t221 => (if t220 ≥ t221 then ((safe_Mul.f a0 a2).bind fun t222 => ((safe_Mul.f a1 a2).bind fun t223 => (some (decide (t222 ≤ t223))))) else (some false)))) else (some false)))) else (some false)) = some r := H
              have A174 := Aside0.mk A1740
              clear A1740
              by_cases c175 : t216 ≤ t217
              · rw [if_pos c175] at H
                have c175b0 : decide (t216 ≤ t217) = true := decide_eq_true c175
                clear c175
                replace H := Option.bind_eq_some_iff.mp H
                obtain ⟨t218, A1760, H⟩ := H
                replace H : ((safe_Sub.f a1 a2).bind fun t219 => (if t218 ≤ t219 then ((safe_Sub.f a2 a0).bind fun t220 => ((safe_Sub.f a2 a1).bind fun t221 => (if t220 ≥ t221 then ((safe_Mul.f a0 a2).bind fun t222 => ((safe_Mul.f a1 a2).bind fun t223 => (some (decide (t222 ≤ t223))))) else (some false)))) else (some false))) = some r := H
                have A176 := Aside0.mk A1760
                clear A1760
                replace H := Option.bind_eq_some_iff.mp H
                obtain ⟨t219, A1770, H⟩ := H
                replace H : (if t218 ≤ t219 then ((safe_Sub.f a2 a0).bind fun t220 => ((safe_Sub.f a2 a1).bind fun t221 => (if t220 ≥ t221 then ((safe_Mul.f a0 a2).bind fun t222 => ((safe_Mul.f a1 a2).bind fun t223 => (some (decide (t222 ≤ t223))))) else (some false)))) else (some false)) = some r := H
                have A177 := Aside0.mk A1770
                clear A1770
                by_cases c178 : t218 ≤ t219
                · rw [if_pos c178] at H
                  have c178b0 : decide (t218 ≤ t219) = true := decide_eq_true c178
                  clear c178
                  replace H := Option.bind_eq_some_iff.mp H
                  obtain ⟨t220, A1790, H⟩ := H
                  replace H : ((safe_Sub.f a2 a1).bind fun t221 => (if t220 ≥ t221 then ((safe_Mul.f a0 a2).bind fun t222 => ((safe_Mul.f a1 a2).bind fun t223 => (some (decide (t222 ≤ t223))))) else (some false))) = some r := H
                  have A179 := Aside0.mk A1790
                  clear A1790
                  replace H := Option.bind_eq_some_iff.mp H
                  obtain ⟨t221, A1800, H⟩ := H
                  replace H : (if t220 ≥ t221 then ((safe_Mul.f a0 a2).bind fun t222 => ((safe_Mul.f a1 a2).bind fun t223 => (some (decide (t222 ≤ t223))))) else (some false)) = some r := H
                  have A180 := Aside0.mk A1800
                  clear A1800
                  by_cases c181 : t220 ≥ t221
                  · rw [if_pos c181] at H
                    have c181b0 : decide (t221 ≤ t220) = true := decide_eq_true c181
                    clear c181
                    replace H := Option.bind_eq_some_iff.mp H
                    obtain ⟨t222, A1820, H⟩ := H
                    replace H : ((safe_Mul.f a1 a2).bind fun t223 => (some (decide (t222 ≤ t223)))) = some r := H
                    have A182 := Aside0.mk A1820
                    clear A1820
                    replace H := Option.bind_eq_some_iff.mp H
                    obtain ⟨t223, A1830, H⟩ := H
                    replace H : (some (decide (t222 ≤ t223))) = some r := H
                    have A183 := Aside0.mk A1830
                    clear A1830
                    obtain rfl := Option.some.inj H
                    go_enter Try.func5, Try.ntmps5
                    go_wp2_with (first | ((with_reducible refine gate_callee (f := 9) rfl ?_); refine goesL_ (some 11) rfl rfl Try.func9 (by kernel_rfl) rfl #[] rfl (by (try simp only [List.map_toArray, List.map_cons, List.map_nil]); first | done | rfl | (simp only [List.length_drop, List.length_take]; rfl)) ?_; (with_reducible refine (sawtoothlaw01_awake.calls  true _ A4.out).mono ?_); rintro e w184 ⟨rfl, hb⟩; refine ⟨_, rfl, ?_⟩; have n0_ := Aside0.mk (below_step (by repeat (first | (with_reducible first | exact HB.out | apply below_alloc | apply pw_below_drewN | apply below_drew1) | exact HB.out)) hb); clear HB; have HB := n0_; clear n0_; (try clear hb); (try clear hb2); (try clear hk); (try clear hi)) | (go_at_call 14; (with_reducible refine (safe_Add.calls a0 a1 t212 _ A167.out).mono ?_); rintro e w185 ⟨rfl, hb⟩; have n0_ := Aside0.mk (below_step (by repeat (first | (with_reducible first | exact HB.out | apply below_alloc | apply pw_below_drewN | apply below_drew1) | exact HB.out)) hb); clear HB; have HB := n0_; clear n0_; (try clear hb); (try clear hb2); (try clear hk); (try clear hi)) | (go_at_call 14; (with_reducible refine (safe_Add.calls a1 a0 t213 _ A168.out).mono ?_); rintro e w186 ⟨rfl, hb⟩; have n0_ := Aside0.mk (below_step (by repeat (first | (with_reducible first | exact HB.out | apply below_alloc | apply pw_below_drewN | apply below_drew1) | exact HB.out)) hb); clear HB; have HB := n0_; clear n0_; (try clear hb); (try clear hb2); (try clear hk); (try clear hi)) | (go_at_call 18; (with_reducible refine (safe_Mul.calls a0 a1 t214 _ A170.out).mono ?_); rintro e w187 ⟨rfl, hb⟩; have n0_ := Aside0.mk (below_step (by repeat (first | (with_reducible first | exact HB.out | apply below_alloc | apply pw_below_drewN | apply below_drew1) | exact HB.out)) hb); clear HB; have HB := n0_; clear n0_; (try clear hb); (try clear hb2); (try clear hk); (try clear hi)) | (go_at_call 18; (with_reducible refine (safe_Mul.calls a1 a0 t215 _ A171.out).mono ?_); rintro e w188 ⟨rfl, hb⟩; have n0_ := Aside0.mk (below_step (by repeat (first | (with_reducible first | exact HB.out | apply below_alloc | apply pw_below_drewN | apply below_drew1) | exact HB.out)) hb); clear HB; have HB := n0_; clear n0_; (try clear hb); (try clear hb2); (try clear hk); (try clear hi)) | (go_at_call 14; (with_reducible refine (safe_Add.calls a0 a2 t216 _ A173.out).mono ?_); rintro e w189 ⟨rfl, hb⟩; have n0_ := Aside0.mk (below_step (by repeat (first | (with_reducible first | exact HB.out | apply below_alloc | apply pw_below_drewN | apply below_drew1) | exact HB.out)) hb); clear HB; have HB := n0_; clear n0_; (try clear hb); (try clear hb2); (try clear hk); (try clear hi)) | (go_at_call 14; (with_reducible refine (safe_Add.calls a1 a2 t217 _ A174.out).mono ?_); rintro e w190 ⟨rfl, hb⟩; have n0_ := Aside0.mk (below_step (by repeat (first | (with_reducible first | exact HB.out | apply below_alloc | apply pw_below_drewN | apply below_drew1) | exact HB.out)) hb); clear HB; have HB := n0_; clear n0_; (try clear hb); (try clear hb2); (try clear hk); (try clear hi)) | (go_at_call 16; (with_reducible refine (safe_Sub.calls a0 a2 t218 _ A176.out).mono ?_); rintro e w191 ⟨rfl, hb⟩; have n0_ := Aside0.mk (below_step (by repeat (first | (with_reducible first | exact HB.out | apply below_alloc | apply pw_below_drewN | apply below_drew1) | exact HB.out)) hb); clear HB; have HB := n0_; clear n0_; (try clear hb); (try clear hb2); (try clear hk); (try clear hi)) | (go_at_call 16; (with_reducible refine (safe_Sub.calls a1 a2 t219 _ A177.out).mono ?_); rintro e w192 ⟨rfl, hb⟩; have n0_ := Aside0.mk (below_step (by repeat (first | (with_reducible first | exact HB.out | apply below_alloc | apply pw_below_drewN | apply below_drew1) | exact HB.out)) hb); clear HB; have HB := n0_; clear n0_; (try clear hb); (try clear hb2); (try clear hk); (try clear hi)) | (go_at_call 16; (with_reducible refine (safe_Sub.calls a2 a0 t220 _ A179.out).mono ?_); rintro e w193 ⟨rfl, hb⟩; have n0_ := Aside0.mk (below_step (by repeat (first | (with_reducible first | exact HB.out | apply below_alloc | apply pw_below_drewN | apply below_drew1) | exact HB.out)) hb); clear HB; have HB := n0_; clear n0_; (try clear hb); (try clear hb2); (try clear hk); (try clear hi)) | (go_at_call 16; (with_reducible refine (safe_Sub.calls a2 a1 t221 _ A180.out).mono ?_); rintro e w194 ⟨rfl, hb⟩; have n0_ := Aside0.mk (below_step (by repeat (first | (with_reducible first | exact HB.out | apply below_alloc | apply pw_below_drewN | apply below_drew1) | exact HB.out)) hb); clear HB; have HB := n0_; clear n0_; (try clear hb); (try clear hb2); (try clear hk); (try clear hi)) | (go_at_call 18; (with_reducible refine (safe_Mul.calls a0 a2 t222 _ A182.out).mono ?_); rintro e w195 ⟨rfl, hb⟩; have n0_ := Aside0.mk (below_step (by repeat (first | (with_reducible first | exact HB.out | apply below_alloc | apply pw_below_drewN | apply below_drew1) | exact HB.out)) hb); clear HB; have HB := n0_; clear n0_; (try clear hb); (try clear hb2); (try clear hk); (try clear hi)) | (go_at_call 18; (with_reducible refine (safe_Mul.calls a1 a2 t223 _ A183.out).mono ?_); rintro e w196 ⟨rfl, hb⟩; have n0_ := Aside0.mk (below_step (by repeat (first | (with_reducible first | exact HB.out | apply below_alloc | apply pw_below_drewN | apply below_drew1) | exact HB.out)) hb); clear HB; have HB := n0_; clear n0_; (try clear hb); (try clear hb2); (try clear hk); (try clear hi)))
                    go_ret
                    exact ⟨by first | rfl | (simp [errW_none, errW_some] <;> rfl) | (simp [*, errW_none, errW_some] <;> rfl), by repeat (first | (with_reducible first | exact HB.out | apply below_alloc | apply pw_below_drewN | apply below_drew1) | exact HB.out)⟩
                  · rw [if_neg c181] at H
                    have c181b0 : decide (t221 ≤ t220) = false := decide_eq_false c181
                    clear c181
                    exact absurd ((Option.some.inj H).trans hr_) (by simp)
                · rw [if_neg c178] at H
                  have c178b0 : decide (t218 ≤ t219) = false := decide_eq_false c178
                  clear c178
                  exact absurd ((Option.some.inj H).trans hr_) (by simp)
              · rw [if_neg c175] at H
                have c175b0 : decide (t216 ≤ t217) = false := decide_eq_false c175
                clear c175
                exact absurd ((Option.some.inj H).trans hr_) (by simp)
            · rw [if_neg c172] at H
              have c172b0 : (t214 == t215) = false := beq_eq_false_iff_ne.mpr c172
              have c172b1 : (t214 != t215) = true := bne_iff_ne.mpr c172
              exact absurd ((Option.some.inj H).trans hr_) (by simp)
          · rw [if_neg c169] at H
            have c169b0 : (t212 == t213) = false := beq_eq_false_iff_ne.mpr c169
            have c169b1 : (t212 != t213) = true := bne_iff_ne.mpr c169
            exact absurd ((Option.some.inj H).trans hr_) (by simp)
        · replace c166 := Bool.eq_false_iff.mpr c166
          subst c166
          have H1 : (some false) = some r := by rw [if_neg (show ¬ (false = true) by decide)] at H; exact H
          clear H
          have H := H1
          clear H1
          exact absurd ((Option.some.inj H).trans hr_) (by simp)
    · rw [if_neg c133] at H
      have c133i := eq_false c133
      have c133b0 : decide (a0 < a1) = false := decide_eq_false c133
      clear c133
      by_cases c197 : a2 < 0
      · rw [if_pos c197] at H
        have c197i := eq_true c197
        have c197b0 : decide (a2 < 0) = true := decide_eq_true c197
        clear c197
        by_cases c198 : t151 = true
        · subst c198
          have H1 : ((safe_Add.f a0 a1).bind fun t224 => ((safe_Add.f a1 a0).bind fun t225 => (if t224 = t225 then ((safe_Mul.f a0 a1).bind fun t226 => ((safe_Mul.f a1 a0).bind fun t227 => (if t226 = t227 then ((safe_Add.f a0 a2).bind fun t228 => ((safe_Add.f a0 a2).bind fun t229 => (if t228 ≤ t229 then ((safe_Sub.f a0 a2).bind fun t230 => ((safe_Sub.f a0 a2).bind fun t231 => (if t230 ≤ t231 then ((safe_Sub.f a2 a0).bind fun t232 => ((safe_Sub.f a2 a0).bind fun t233 => (if t232 ≥ t233 then ((safe_Mul.f a0 0).bind fun t234 => ((safe_Mul.f a0 0).bind fun t235 => (some (decide (t234 ≤ t235))))) else (some false)))) else (some false)))) else (some false)))) else (some false)))) else (some false)))) = some r := by rw [if_pos rfl] at H; exact H
          clear H
          have H := H1
          clear H1
          replace H := Option.bind_eq_some_iff.mp H
          obtain ⟨t224, A1990, H⟩ := H
          replace H : ((safe_Add.f a1 a0).bind fun t225 => (if t224 = t225 then ((safe_Mul.f a0 a1).bind fun t226 => ((safe_Mul.f a1 a0).bind fun t227 => (if t226 = t227 then ((safe_Add.f a0 a2).bind fun t228 => ((safe_Add.f a0 a2).bind fun t229 => (if t228 ≤ t229 then ((safe_Sub.f a0 a2).bind fun t230 => ((safe_Sub.f a0 a2).bind fun t231 => (if t230 ≤ t231 then ((safe_Sub.f a2 a0).bind fun t232 => ((safe_Sub.f a2 a0).bind fun t233 => (if t232 ≥ t233 then ((safe_Mul.f a0 0).bind fun t234 => ((safe_Mul.f a0 0).bind fun t235 => (some (decide (t234 ≤ t235))))) else (some false)))) else (some false)))) else (some false)))) else (some false)))) else (some false))) = some r := H
          have A199 := Aside0.mk A1990
          clear A1990
          replace H := Option.bind_eq_some_iff.mp H
          obtain ⟨t225, A2000, H⟩ := H
          replace H : (if t224 = t225 then ((safe_Mul.f a0 a1).bind fun t226 => ((safe_Mul.f a1 a0).bind fun t227 => (if t226 = t227 then ((safe_Add.f a0 a2).bind fun t228 => ((safe_Add.f a0 a2).bind fun t229 => (if t228 ≤ t229 then ((safe_Sub.f a0 a2).bind fun t230 => ((safe_Sub.f a0 a2).bind fun t231 => (if t230 ≤ t231 then ((safe_Sub.f a2 a0).bind fun t232 => ((safe_Sub.f a2 a0).bind fun t233 => (if t232 ≥ t233 then ((safe_Mul.f a0 0).bind fun t234 => ((safe_Mul.f a0 0).bind fun t235 => (some (decide (t234 ≤ t235))))) else (some false)))) else (some false)))) else (some false)))) else (some false)))) else (some false)) = some r := H
          have A200 := Aside0.mk A2000
          clear A2000
          by_cases c201 : t224 = t225
          · rw [if_pos c201] at H
            have c201b0 : (t224 == t225) = true := beq_iff_eq.mpr c201
            have c201b1 : (t224 != t225) = false := bne_eq_false_iff_eq.mpr c201
            clear c201
            replace H := Option.bind_eq_some_iff.mp H
            obtain ⟨t226, A2020, H⟩ := H
            replace H : ((safe_Mul.f a1 a0).bind fun t227 => (if t226 = t227 then ((safe_Add.f a0 a2).bind fun t228 => ((safe_Add.f a0 a2).bind fun t229 => (if t228 ≤ t229 then ((safe_Sub.f a0 a2).bind fun t230 => ((safe_Sub.f a0 a2).bind fun t231 => (if t230 ≤ t231 then ((safe_Sub.f a2 a0).bind fun t232 => ((safe_Sub.f a2 a0).bind fun t233 => (if t232 ≥ t233 then ((safe_Mul.f a0 0).bind fun t234 => ((safe_Mul.f a0 0).bind fun t235 => (some (decide (t234 ≤ t235))))) else (some false)))) else (some false)))) else (some false)))) else (some false))) = some r := H
            have A202 := Aside0.mk A2020
            clear A2020
            replace H := Option.bind_eq_some_iff.mp H
            obtain ⟨t227, A2030, H⟩ := H
            replace H : (if t226 = t227 then ((safe_Add.f a0 a2).bind fun t228 => ((safe_Add.f a0 a2).bind fun t229 => (if t228 ≤ t229 then ((safe_Sub.f a0 a2).bind fun t230 => ((safe_Sub.f a0 a2).bind fun t231 => (if t230 ≤ t231 then ((safe_Sub.f a2 a0).bind fun t232 => ((safe_Sub.f a2 a0).bind fun t233 => (if t232 ≥ t233 then ((safe_Mul.f a0 0).bind fun t234 => ((safe_Mul.f a0 0).bind fun t235 => (some (decide (t234 ≤ t235))))) else (some false)))) else (some false)))) else (some false)))) else (some false)) = some r := H
            have A203 := Aside0.mk A2030
            clear A2030
            by_cases c204 : t226 = t227
            · rw [if_pos c204] at H
              have c204b0 : (t226 == t227) = true := beq_iff_eq.mpr c204
              have c204b1 : (t226 != t227) = false := bne_eq_false_iff_eq.mpr c204
              clear c204
              replace H := Option.bind_eq_some_iff.mp H
              obtain ⟨t228, A2050, H⟩ := H
              replace H : ((safe_Add.f a0 a2).bind fun t229 => (if t228 ≤ t229 then ((safe_Sub.f a0 a2).bind fun t230 => ((safe_Sub.f a0 a2).bind fun t231 => (if t230 ≤ t231 then ((safe_Sub.f a2 a0).bind fun t232 => ((safe_Sub.f a2 a0).bind fun t233 => (if t232 ≥ t233 then ((safe_Mul.f a0 0).bind fun t234 => ((safe_Mul.f a0 0).bind fun t235 => (some (decide (t234 ≤ t235))))) else (some false)))) else (some false)))) else (some false))) = some r := H
              have A205 := Aside0.mk A2050
              clear A2050
              replace H := Option.bind_eq_some_iff.mp H
              obtain ⟨t229, A2060, H⟩ := H
              replace H : (if t228 ≤ t229 then ((safe_Sub.f a0 a2).bind fun t230 => ((safe_Sub.f a0 a2).bind fun t231 => (if t230 ≤ t231 then ((safe_Sub.f a2 a0).bind fun t232 => ((safe_Sub.f a2 a0).bind fun t233 => (if t232 ≥ t233 then ((safe_Mul.f a0 0).bind fun t234 => ((safe_Mul.f a0 0).bind fun t235 => (some (decide (t234 ≤ t235))))) else (some false)))) else (some false)))) else (some false)) = some r := H
              have A206 := Aside0.mk A2060
              clear A2060
              have e_ := Option.some.inj (A205.out.symm.trans A206.out)
              obtain rfl := e_
              replace H : (if t228 ≤ t228 then ((safe_Sub.f a0 a2).bind fun t230 => ((safe_Sub.f a0 a2).bind fun t231 => (if t230 ≤ t231 then ((safe_Sub.f a2 a0).bind fun t232 => ((safe_Sub.f a2 a0).bind fun t233 => (if t232 ≥ t233 then ((safe_Mul.f a0 0).bind fun t234 => ((safe_Mul.f a0 0).bind fun t235 => (some (decide (t234 ≤ t235))))) else (some false)))) else (some false)))) else (some false)) = some r := H
              by_cases c207 : t228 ≤ t228
              · rw [if_pos c207] at H
                have c207b0 : decide (t228 ≤ t228) = true := decide_eq_true c207
                clear c207
                replace H := Option.bind_eq_some_iff.mp H
                obtain ⟨t230, A2080, H⟩ := H
                replace H : ((safe_Sub.f a0 a2).bind fun t231 => (if t230 ≤ t231 then ((safe_Sub.f a2 a0).bind fun t232 => ((safe_Sub.f a2 a0).bind fun t233 => (if t232 ≥ t233 then ((safe_Mul.f a0 0).bind fun t234 => ((safe_Mul.f a0 0).bind fun t235 => (some (decide (t234 ≤ t235))))) else (some false)))) else (some false))) = some r := H
                have A208 := Aside0.mk A2080
                clear A2080
                replace H := Option.bind_eq_some_iff.mp H
                obtain ⟨t231, A2090, H⟩ := H
                replace H : (if t230 ≤ t231 then ((safe_Sub.f a2 a0).bind fun t232 => ((safe_Sub.f a2 a0).bind fun t233 => (if t232 ≥ t233 then ((safe_Mul.f a0 0).bind fun t234 => ((safe_Mul.f a0 0).bind fun t235 => (some (decide (t234 ≤ t235))))) else (some false)))) else (some false)) = some r := H
                have A209 := Aside0.mk A2090
                clear A2090
                have e_ := Option.some.inj (A208.out.symm.trans A209.out)
                obtain rfl := e_
                replace H : (if t230 ≤ t230 then ((safe_Sub.f a2 a0).bind fun t232 => ((safe_Sub.f a2 a0).bind fun t233 => (if t232 ≥ t233 then ((safe_Mul.f a0 0).bind fun t234 => ((safe_Mul.f a0 0).bind fun t235 => (some (decide (t234 ≤ t235))))) else (some false)))) else (some false)) = some r := H
                by_cases c210 : t230 ≤ t230
                · rw [if_pos c210] at H
                  have c210b0 : decide (t230 ≤ t230) = true := decide_eq_true c210
                  clear c210
                  replace H := Option.bind_eq_some_iff.mp H
                  obtain ⟨t232, A2110, H⟩ := H
                  replace H : ((safe_Sub.f a2 a0).bind fun t233 => (if t232 ≥ t233 then ((safe_Mul.f a0 0).bind fun t234 => ((safe_Mul.f a0 0).bind fun t235 => (some (decide (t234 ≤ t235))))) else (some false))) = some r := H
                  have A211 := Aside0.mk A2110
                  clear A2110
                  replace H := Option.bind_eq_some_iff.mp H
                  obtain ⟨t233, A2120, H⟩ := H
                  replace H : (if t232 ≥ t233 then ((safe_Mul.f a0 0).bind fun t234 => ((safe_Mul.f a0 0).bind fun t235 => (some (decide (t234 ≤ t235))))) else (some false)) = some r := H
                  have A212 := Aside0.mk A2120
                  clear A2120
                  have e_ := Option.some.inj (A211.out.symm.trans A212.out)
                  obtain rfl := e_
                  replace H : (if t232 ≥ t232 then ((safe_Mul.f a0 0).bind fun t234 => ((safe_Mul.f a0 0).bind fun t235 => (some (decide (t234 ≤ t235))))) else (some false)) = some r := H
                  by_cases c213 : t232 ≥ t232
                  · rw [if_pos c213] at H
                    have c213b0 : decide (t232 ≤ t232) = true := decide_eq_true c213
                    clear c213
                    replace H := Option.bind_eq_some_iff.mp H
                    obtain ⟨t234, A2140, H⟩ := H
                    replace H : ((safe_Mul.f a0 0).bind fun t235 => (some (decide (t234 ≤ t235)))) = some r := H
                    have A214 := Aside0.mk A2140
                    clear A2140
                    replace H := Option.bind_eq_some_iff.mp H
                    obtain ⟨t235, A2150, H⟩ := H
                    replace H : (some (decide (t234 ≤ t235))) = some r := H
                    have A215 := Aside0.mk A2150
                    clear A2150
                    have e_ := Option.some.inj (A214.out.symm.trans A215.out)
                    obtain rfl := e_
                    replace H : (some (decide (t234 ≤ t234))) = some r := H
                    obtain rfl := Option.some.inj H
                    go_enter Try.func5, Try.ntmps5
                    go_wp2_with (first | ((with_reducible refine gate_callee (f := 9) rfl ?_); refine goesL_ (some 11) rfl rfl Try.func9 (by kernel_rfl) rfl #[] rfl (by (try simp only [List.map_toArray, List.map_cons, List.map_nil]); first | done | rfl | (simp only [List.length_drop, List.length_take]; rfl)) ?_; (with_reducible refine (sawtoothlaw01_awake.calls  true _ A4.out).mono ?_); rintro e w216 ⟨rfl, hb⟩; refine ⟨_, rfl, ?_⟩; have n0_ := Aside0.mk (below_step (by repeat (first | (with_reducible first | exact HB.out | apply below_alloc | apply pw_below_drewN | apply below_drew1) | exact HB.out)) hb); clear HB; have HB := n0_; clear n0_; (try clear hb); (try clear hb2); (try clear hk); (try clear hi)) | (go_at_call 14; (with_reducible refine (safe_Add.calls a0 a1 t224 _ A199.out).mono ?_); rintro e w217 ⟨rfl, hb⟩; have n0_ := Aside0.mk (below_step (by repeat (first | (with_reducible first | exact HB.out | apply below_alloc | apply pw_below_drewN | apply below_drew1) | exact HB.out)) hb); clear HB; have HB := n0_; clear n0_; (try clear hb); (try clear hb2); (try clear hk); (try clear hi)) | (go_at_call 14; (with_reducible refine (safe_Add.calls a1 a0 t225 _ A200.out).mono ?_); rintro e w218 ⟨rfl, hb⟩; have n0_ := Aside0.mk (below_step (by repeat (first | (with_reducible first | exact HB.out | apply below_alloc | apply pw_below_drewN | apply below_drew1) | exact HB.out)) hb); clear HB; have HB := n0_; clear n0_; (try clear hb); (try clear hb2); (try clear hk); (try clear hi)) | (go_at_call 18; (with_reducible refine (safe_Mul.calls a0 a1 t226 _ A202.out).mono ?_); rintro e w219 ⟨rfl, hb⟩; have n0_ := Aside0.mk (below_step (by repeat (first | (with_reducible first | exact HB.out | apply below_alloc | apply pw_below_drewN | apply below_drew1) | exact HB.out)) hb); clear HB; have HB := n0_; clear n0_; (try clear hb); (try clear hb2); (try clear hk); (try clear hi)) | (go_at_call 18; (with_reducible refine (safe_Mul.calls a1 a0 t227 _ A203.out).mono ?_); rintro e w220 ⟨rfl, hb⟩; have n0_ := Aside0.mk (below_step (by repeat (first | (with_reducible first | exact HB.out | apply below_alloc | apply pw_below_drewN | apply below_drew1) | exact HB.out)) hb); clear HB; have HB := n0_; clear n0_; (try clear hb); (try clear hb2); (try clear hk); (try clear hi)) | (go_at_call 14; (with_reducible refine (safe_Add.calls a0 a2 t228 _ A205.out).mono ?_); rintro e w221 ⟨rfl, hb⟩; have n0_ := Aside0.mk (below_step (by repeat (first | (with_reducible first | exact HB.out | apply below_alloc | apply pw_below_drewN | apply below_drew1) | exact HB.out)) hb); clear HB; have HB := n0_; clear n0_; (try clear hb); (try clear hb2); (try clear hk); (try clear hi)) | (go_at_call 14; (with_reducible refine (safe_Add.calls a0 a2 t228 _ A206.out).mono ?_); rintro e w222 ⟨rfl, hb⟩; have n0_ := Aside0.mk (below_step (by repeat (first | (with_reducible first | exact HB.out | apply below_alloc | apply pw_below_drewN | apply below_drew1) | exact HB.out)) hb); clear HB; have HB := n0_; clear n0_; (try clear hb); (try clear hb2); (try clear hk); (try clear hi)) | (go_at_call 16; (with_reducible refine (safe_Sub.calls a0 a2 t230 _ A208.out).mono ?_); rintro e w223 ⟨rfl, hb⟩; have n0_ := Aside0.mk (below_step (by repeat (first | (with_reducible first | exact HB.out | apply below_alloc | apply pw_below_drewN | apply below_drew1) | exact HB.out)) hb); clear HB; have HB := n0_; clear n0_; (try clear hb); (try clear hb2); (try clear hk); (try clear hi)) | (go_at_call 16; (with_reducible refine (safe_Sub.calls a0 a2 t230 _ A209.out).mono ?_); rintro e w224 ⟨rfl, hb⟩; have n0_ := Aside0.mk (below_step (by repeat (first | (with_reducible first | exact HB.out | apply below_alloc | apply pw_below_drewN | apply below_drew1) | exact HB.out)) hb); clear HB; have HB := n0_; clear n0_; (try clear hb); (try clear hb2); (try clear hk); (try clear hi)) | (go_at_call 16; (with_reducible refine (safe_Sub.calls a2 a0 t232 _ A211.out).mono ?_); rintro e w225 ⟨rfl, hb⟩; have n0_ := Aside0.mk (below_step (by repeat (first | (with_reducible first | exact HB.out | apply below_alloc | apply pw_below_drewN | apply below_drew1) | exact HB.out)) hb); clear HB; have HB := n0_; clear n0_; (try clear hb); (try clear hb2); (try clear hk); (try clear hi)) | (go_at_call 16; (with_reducible refine (safe_Sub.calls a2 a0 t232 _ A212.out).mono ?_); rintro e w226 ⟨rfl, hb⟩; have n0_ := Aside0.mk (below_step (by repeat (first | (with_reducible first | exact HB.out | apply below_alloc | apply pw_below_drewN | apply below_drew1) | exact HB.out)) hb); clear HB; have HB := n0_; clear n0_; (try clear hb); (try clear hb2); (try clear hk); (try clear hi)) | (go_at_call 18; (with_reducible refine (safe_Mul.calls a0 0 t234 _ A214.out).mono ?_); rintro e w227 ⟨rfl, hb⟩; have n0_ := Aside0.mk (below_step (by repeat (first | (with_reducible first | exact HB.out | apply below_alloc | apply pw_below_drewN | apply below_drew1) | exact HB.out)) hb); clear HB; have HB := n0_; clear n0_; (try clear hb); (try clear hb2); (try clear hk); (try clear hi)) | (go_at_call 18; (with_reducible refine (safe_Mul.calls a0 0 t234 _ A215.out).mono ?_); rintro e w228 ⟨rfl, hb⟩; have n0_ := Aside0.mk (below_step (by repeat (first | (with_reducible first | exact HB.out | apply below_alloc | apply pw_below_drewN | apply below_drew1) | exact HB.out)) hb); clear HB; have HB := n0_; clear n0_; (try clear hb); (try clear hb2); (try clear hk); (try clear hi)))
                    go_ret
                    exact ⟨by first | rfl | (simp [errW_none, errW_some] <;> rfl) | (simp [*, errW_none, errW_some] <;> rfl), by repeat (first | (with_reducible first | exact HB.out | apply below_alloc | apply pw_below_drewN | apply below_drew1) | exact HB.out)⟩
                  · rw [if_neg c213] at H
                    have c213b0 : decide (t232 ≤ t232) = false := decide_eq_false c213
                    clear c213
                    exact absurd ((Option.some.inj H).trans hr_) (by simp)
                · rw [if_neg c210] at H
                  have c210b0 : decide (t230 ≤ t230) = false := decide_eq_false c210
                  clear c210
                  exact absurd ((Option.some.inj H).trans hr_) (by simp)
              · rw [if_neg c207] at H
                have c207b0 : decide (t228 ≤ t228) = false := decide_eq_false c207
                clear c207
                exact absurd ((Option.some.inj H).trans hr_) (by simp)
            · rw [if_neg c204] at H
              have c204b0 : (t226 == t227) = false := beq_eq_false_iff_ne.mpr c204
              have c204b1 : (t226 != t227) = true := bne_iff_ne.mpr c204
              exact absurd ((Option.some.inj H).trans hr_) (by simp)
          · rw [if_neg c201] at H
            have c201b0 : (t224 == t225) = false := beq_eq_false_iff_ne.mpr c201
            have c201b1 : (t224 != t225) = true := bne_iff_ne.mpr c201
            exact absurd ((Option.some.inj H).trans hr_) (by simp)
        · replace c198 := Bool.eq_false_iff.mpr c198
          subst c198
          have H1 : (some false) = some r := by rw [if_neg (show ¬ (false = true) by decide)] at H; exact H
          clear H
          have H := H1
          clear H1
          exact absurd ((Option.some.inj H).trans hr_) (by simp)
      · rw [if_neg c197] at H
        have c197i := eq_false c197
        have c197b0 : decide (a2 < 0) = false := decide_eq_false c197
        clear c197
        by_cases c229 : t151 = true
        · subst c229
          have H1 : ((safe_Add.f a0 a1).bind fun t236 => ((safe_Add.f a1 a0).bind fun t237 => (if t236 = t237 then ((safe_Mul.f a0 a1).bind fun t238 => ((safe_Mul.f a1 a0).bind fun t239 => (if t238 = t239 then ((safe_Add.f a0 a2).bind fun t240 => ((safe_Add.f a0 a2).bind fun t241 => (if t240 ≤ t241 then ((safe_Sub.f a0 a2).bind fun t242 => ((safe_Sub.f a0 a2).bind fun t243 => (if t242 ≤ t243 then ((safe_Sub.f a2 a0).bind fun t244 => ((safe_Sub.f a2 a0).bind fun t245 => (if t244 ≥ t245 then ((safe_Mul.f a0 a2).bind fun t246 => ((safe_Mul.f a0 a2).bind fun t247 => (some (decide (t246 ≤ t247))))) else (some false)))) else (some false)))) else (some false)))) else (some false)))) else (some false)))) = some r := by rw [if_pos rfl] at H; exact H
          clear H
          have H := H1
          clear H1
          replace H := Option.bind_eq_some_iff.mp H
          obtain ⟨t236, A2300, H⟩ := H
          replace H : ((safe_Add.f a1 a0).bind fun t237 => (if t236 = t237 then ((safe_Mul.f a0 a1).bind fun t238 => ((safe_Mul.f a1 a0).bind fun t239 => (if t238 = t239 then ((safe_Add.f a0 a2).bind fun t240 => ((safe_Add.f a0 a2).bind fun t241 => (if t240 ≤ t241 then ((safe_Sub.f a0 a2).bind fun t242 => ((safe_Sub.f a0 a2).bind fun t243 => (if t242 ≤ t243 then ((safe_Sub.f a2 a0).bind fun t244 => ((safe_Sub.f a2 a0).bind fun t245 => (if t244 ≥ t245 then ((safe_Mul.f a0 a2).bind fun t246 => ((safe_Mul.f a0 a2).bind fun t247 => (some (decide (t246 ≤ t247))))) else (some false)))) else (some false)))) else (some false)))) else (some false)))) else (some false))) = some r := H
          have A230 := Aside0.mk A2300
          clear A2300
          replace H := Option.bind_eq_some_iff.mp H
          obtain ⟨t237, A2310, H⟩ := H
          replace H : (if t236 = t237 then ((safe_Mul.f a0 a1).bind fun t238 => ((safe_Mul.f a1 a0).bind fun t239 => (if t238 = t239 then ((safe_Add.f a0 a2).bind fun t240 => ((safe_Add.f a0 a2).bind fun t241 => (if t240 ≤ t241 then ((safe_Sub.f a0 a2).bind fun t242 => ((safe_Sub.f a0 a2).bind fun t243 => (if t242 ≤ t243 then ((safe_Sub.f a2 a0).bind fun t244 => ((safe_Sub.f a2 a0).bind fun t245 => (if t244 ≥ t245 then ((safe_Mul.f a0 a2).bind fun t246 => ((safe_Mul.f a0 a2).bind fun t247 => (some (decide (t246 ≤ t247))))) else (some false)))) else (some false)))) else (some false)))) else (some false)))) else (some false)) = some r := H
          have A231 := Aside0.mk A2310
          clear A2310
          by_cases c232 : t236 = t237
          · rw [if_pos c232] at H
            have c232b0 : (t236 == t237) = true := beq_iff_eq.mpr c232
            have c232b1 : (t236 != t237) = false := bne_eq_false_iff_eq.mpr c232
            clear c232
            replace H := Option.bind_eq_some_iff.mp H
            obtain ⟨t238, A2330, H⟩ := H
            replace H : ((safe_Mul.f a1 a0).bind fun t239 => (if t238 = t239 then ((safe_Add.f a0 a2).bind fun t240 => ((safe_Add.f a0 a2).bind fun t241 => (if t240 ≤ t241 then ((safe_Sub.f a0 a2).bind fun t242 => ((safe_Sub.f a0 a2).bind fun t243 => (if t242 ≤ t243 then ((safe_Sub.f a2 a0).bind fun t244 => ((safe_Sub.f a2 a0).bind fun t245 => (if t244 ≥ t245 then ((safe_Mul.f a0 a2).bind fun t246 => ((safe_Mul.f a0 a2).bind fun t247 => (some (decide (t246 ≤ t247))))) else (some false)))) else (some false)))) else (some false)))) else (some false))) = some r := H
            have A233 := Aside0.mk A2330
            clear A2330
            replace H := Option.bind_eq_some_iff.mp H
            obtain ⟨t239, A2340, H⟩ := H
            replace H : (if t238 = t239 then ((safe_Add.f a0 a2).bind fun t240 => ((safe_Add.f a0 a2).bind fun t241 => (if t240 ≤ t241 then ((safe_Sub.f a0 a2).bind fun t242 => ((safe_Sub.f a0 a2).bind fun t243 => (if t242 ≤ t243 then ((safe_Sub.f a2 a0).bind fun t244 => ((safe_Sub.f a2 a0).bind fun t245 => (if t244 ≥ t245 then ((safe_Mul.f a0 a2).bind fun t246 => ((safe_Mul.f a0 a2).bind fun t247 => (some (decide (t246 ≤ t247))))) else (some false)))) else (some false)))) else (some false)))) else (some false)) = some r := H
            have A234 := Aside0.mk A2340
            clear A2340
            by_cases c235 : t238 = t239
            · rw [if_pos c235] at H
              have c235b0 : (t238 == t239) = true := beq_iff_eq.mpr c235
              have c235b1 : (t238 != t239) = false := bne_eq_false_iff_eq.mpr c235
              clear c235
              replace H := Option.bind_eq_some_iff.mp H
              obtain ⟨t240, A2360, H⟩ := H
              replace H : ((safe_Add.f a0 a2).bind fun t241 => (if t240 ≤ t241 then ((safe_Sub.f a0 a2).bind fun t242 => ((safe_Sub.f a0 a2).bind fun t243 => (if t242 ≤ t243 then ((safe_Sub.f a2 a0).bind fun t244 => ((safe_Sub.f a2 a0).bind fun t245 => (if t244 ≥ t245 then ((safe_Mul.f a0 a2).bind fun t246 => ((safe_Mul.f a0 a2).bind fun t247 => (some (decide (t246 ≤ t247))))) else (some false)))) else (some false)))) else (some false))) = some r := H
              have A236 := Aside0.mk A2360
              clear A2360
              replace H := Option.bind_eq_some_iff.mp H
              obtain ⟨t241, A2370, H⟩ := H
              replace H : (if t240 ≤ t241 then ((safe_Sub.f a0 a2).bind fun t242 => ((safe_Sub.f a0 a2).bind fun t243 => (if t242 ≤ t243 then ((safe_Sub.f a2 a0).bind fun t244 => ((safe_Sub.f a2 a0).bind fun t245 => (if t244 ≥ t245 then ((safe_Mul.f a0 a2).bind fun t246 => ((safe_Mul.f a0 a2).bind fun t247 => (some (decide (t246 ≤ t247))))) else (some false)))) else (some false)))) else (some false)) = some r := H
              have A237 := Aside0.mk A2370
              clear A2370
              have e_ := Option.some.inj (A236.out.symm.trans A237.out)
              obtain rfl := e_
              replace H : (if t240 ≤ t240 then ((safe_Sub.f a0 a2).bind fun t242 => ((safe_Sub.f a0 a2).bind fun t243 => (if t242 ≤ t243 then ((safe_Sub.f a2 a0).bind fun t244 => ((safe_Sub.f a2 a0).bind fun t245 => (if t244 ≥ t245 then ((safe_Mul.f a0 a2).bind fun t246 => ((safe_Mul.f a0 a2).bind fun t247 => (some (decide (t246 ≤ t247))))) else (some false)))) else (some false)))) else (some false)) = some r := H
              by_cases c238 : t240 ≤ t240
              · rw [if_pos c238] at H
                have c238b0 : decide (t240 ≤ t240) = true := decide_eq_true c238
                clear c238
                replace H := Option.bind_eq_some_iff.mp H
                obtain ⟨t242, A2390, H⟩ := H
                replace H : ((safe_Sub.f a0 a2).bind fun t243 => (if t242 ≤ t243 then ((safe_Sub.f a2 a0).bind fun t244 => ((safe_Sub.f a2 a0).bind fun t245 => (if t244 ≥ t245 then ((safe_Mul.f a0 a2).bind fun t246 => ((safe_Mul.f a0 a2).bind fun t247 => (some (decide (t246 ≤ t247))))) else (some false)))) else (some false))) = some r := H
                have A239 := Aside0.mk A2390
                clear A2390
                replace H := Option.bind_eq_some_iff.mp H
                obtain ⟨t243, A2400, H⟩ := H
                replace H : (if t242 ≤ t243 then ((safe_Sub.f a2 a0).bind fun t244 => ((safe_Sub.f a2 a0).bind fun t245 => (if t244 ≥ t245 then ((safe_Mul.f a0 a2).bind fun t246 => ((safe_Mul.f a0 a2).bind fun t247 => (some (decide (t246 ≤ t247))))) else (some false)))) else (some false)) = some r := H
                have A240 := Aside0.mk A2400
                clear A2400
                have e_ := Option.some.inj (A239.out.symm.trans A240.out)
                obtain rfl := e_
                replace H : (if t242 ≤ t242 then ((safe_Sub.f a2 a0).bind fun t244 => ((safe_Sub.f a2 a0).bind fun t245 => (if t244 ≥ t245 then ((safe_Mul.f a0 a2).bind fun t246 => ((safe_Mul.f a0 a2).bind fun t247 => (some (decide (t246 ≤ t247))))) else (some false)))) else (some false)) = some r := H
                by_cases c241 : t242 ≤ t242
                · rw [if_pos c241] at H
                  have c241b0 : decide (t242 ≤ t242) = true := decide_eq_true c241
                  clear c241
                  replace H := Option.bind_eq_some_iff.mp H
                  obtain ⟨t244, A2420, H⟩ := H
                  replace H : ((safe_Sub.f a2 a0).bind fun t245 => (if t244 ≥ t245 then ((safe_Mul.f a0 a2).bind fun t246 => ((safe_Mul.f a0 a2).bind fun t247 => (some (decide (t246 ≤ t247))))) else (some false))) = some r := H
                  have A242 := Aside0.mk A2420
                  clear A2420
                  replace H := Option.bind_eq_some_iff.mp H
                  obtain ⟨t245, A2430, H⟩ := H
                  replace H : (if t244 ≥ t245 then ((safe_Mul.f a0 a2).bind fun t246 => ((safe_Mul.f a0 a2).bind fun t247 => (some (decide (t246 ≤ t247))))) else (some false)) = some r := H
                  have A243 := Aside0.mk A2430
                  clear A2430
                  have e_ := Option.some.inj (A242.out.symm.trans A243.out)
                  obtain rfl := e_
                  replace H : (if t244 ≥ t244 then ((safe_Mul.f a0 a2).bind fun t246 => ((safe_Mul.f a0 a2).bind fun t247 => (some (decide (t246 ≤ t247))))) else (some false)) = some r := H
                  by_cases c244 : t244 ≥ t244
                  · rw [if_pos c244] at H
                    have c244b0 : decide (t244 ≤ t244) = true := decide_eq_true c244
                    clear c244
                    replace H := Option.bind_eq_some_iff.mp H
                    obtain ⟨t246, A2450, H⟩ := H
                    replace H : ((safe_Mul.f a0 a2).bind fun t247 => (some (decide (t246 ≤ t247)))) = some r := H
                    have A245 := Aside0.mk A2450
                    clear A2450
                    replace H := Option.bind_eq_some_iff.mp H
                    obtain ⟨t247, A2460, H⟩ := H
                    replace H : (some (decide (t246 ≤ t247))) = some r := H
                    have A246 := Aside0.mk A2460
                    clear A2460
                    have e_ := Option.some.inj (A245.out.symm.trans A246.out)
                    obtain rfl := e_
                    replace H : (some (decide (t246 ≤ t246))) = some r := H
                    obtain rfl := Option.some.inj H
                    go_enter Try.func5, Try.ntmps5
                    go_wp2_with (first | ((with_reducible refine gate_callee (f := 9) rfl ?_); refine goesL_ (some 11) rfl rfl Try.func9 (by kernel_rfl) rfl #[] rfl (by (try simp only [List.map_toArray, List.map_cons, List.map_nil]); first | done | rfl | (simp only [List.length_drop, List.length_take]; rfl)) ?_; (with_reducible refine (sawtoothlaw01_awake.calls  true _ A4.out).mono ?_); rintro e w247 ⟨rfl, hb⟩; refine ⟨_, rfl, ?_⟩; have n0_ := Aside0.mk (below_step (by repeat (first | (with_reducible first | exact HB.out | apply below_alloc | apply pw_below_drewN | apply below_drew1) | exact HB.out)) hb); clear HB; have HB := n0_; clear n0_; (try clear hb); (try clear hb2); (try clear hk); (try clear hi)) | (go_at_call 14; (with_reducible refine (safe_Add.calls a0 a1 t236 _ A230.out).mono ?_); rintro e w248 ⟨rfl, hb⟩; have n0_ := Aside0.mk (below_step (by repeat (first | (with_reducible first | exact HB.out | apply below_alloc | apply pw_below_drewN | apply below_drew1) | exact HB.out)) hb); clear HB; have HB := n0_; clear n0_; (try clear hb); (try clear hb2); (try clear hk); (try clear hi)) | (go_at_call 14; (with_reducible refine (safe_Add.calls a1 a0 t237 _ A231.out).mono ?_); rintro e w249 ⟨rfl, hb⟩; have n0_ := Aside0.mk (below_step (by repeat (first | (with_reducible first | exact HB.out | apply below_alloc | apply pw_below_drewN | apply below_drew1) | exact HB.out)) hb); clear HB; have HB := n0_; clear n0_; (try clear hb); (try clear hb2); (try clear hk); (try clear hi)) | (go_at_call 18; (with_reducible refine (safe_Mul.calls a0 a1 t238 _ A233.out).mono ?_); rintro e w250 ⟨rfl, hb⟩; have n0_ := Aside0.mk (below_step (by repeat (first | (with_reducible first | exact HB.out | apply below_alloc | apply pw_below_drewN | apply below_drew1) | exact HB.out)) hb); clear HB; have HB := n0_; clear n0_; (try clear hb); (try clear hb2); (try clear hk); (try clear hi)) | (go_at_call 18; (with_reducible refine (safe_Mul.calls a1 a0 t239 _ A234.out).mono ?_); rintro e w251 ⟨rfl, hb⟩; have n0_ := Aside0.mk (below_step (by repeat (first | (with_reducible first | exact HB.out | apply below_alloc | apply pw_below_drewN | apply below_drew1) | exact HB.out)) hb); clear HB; have HB := n0_; clear n0_; (try clear hb); (try clear hb2); (try clear hk); (try clear hi)) | (go_at_call 14; (with_reducible refine (safe_Add.calls a0 a2 t240 _ A236.out).mono ?_); rintro e w252 ⟨rfl, hb⟩; have n0_ := Aside0.mk (below_step (by repeat (first | (with_reducible first | exact HB.out | apply below_alloc | apply pw_below_drewN | apply below_drew1) | exact HB.out)) hb); clear HB; have HB := n0_; clear n0_; (try clear hb); (try clear hb2); (try clear hk); (try clear hi)) | (go_at_call 14; (with_reducible refine (safe_Add.calls a0 a2 t240 _ A237.out).mono ?_); rintro e w253 ⟨rfl, hb⟩; have n0_ := Aside0.mk (below_step (by repeat (first | (with_reducible first | exact HB.out | apply below_alloc | apply pw_below_drewN | apply below_drew1) | exact HB.out)) hb); clear HB; have HB := n0_; clear n0_; (try clear hb); (try clear hb2); (try clear hk); (try clear hi)) | (go_at_call 16; (with_reducible refine (safe_Sub.calls a0 a2 t242 _ A239.out).mono ?_); rintro e w254 ⟨rfl, hb⟩; have n0_ := Aside0.mk (below_step (by repeat (first | (with_reducible first | exact HB.out | apply below_alloc | apply pw_below_drewN | apply below_drew1) | exact HB.out)) hb); clear HB; have HB := n0_; clear n0_; (try clear hb); (try clear hb2); (try clear hk); (try clear hi)) | (go_at_call 16; (with_reducible refine (safe_Sub.calls a0 a2 t242 _ A240.out).mono ?_); rintro e w255 ⟨rfl, hb⟩; have n0_ := Aside0.mk (below_step (by repeat (first | (with_reducible first | exact HB.out | apply below_alloc | apply pw_below_drewN | apply below_drew1) | exact HB.out)) hb); clear HB; have HB := n0_; clear n0_; (try clear hb); (try clear hb2); (try clear hk); (try clear hi)) | (go_at_call 16; (with_reducible refine (safe_Sub.calls a2 a0 t244 _ A242.out).mono ?_); rintro e w256 ⟨rfl, hb⟩; have n0_ := Aside0.mk (below_step (by repeat (first | (with_reducible first | exact HB.out | apply below_alloc | apply pw_below_drewN | apply below_drew1) | exact HB.out)) hb); clear HB; have HB := n0_; clear n0_; (try clear hb); (try clear hb2); (try clear hk); (try clear hi)) | (go_at_call 16; (with_reducible refine (safe_Sub.calls a2 a0 t244 _ A243.out).mono ?_); rintro e w257 ⟨rfl, hb⟩; have n0_ := Aside0.mk (below_step (by repeat (first | (with_reducible first | exact HB.out | apply below_alloc | apply pw_below_drewN | apply below_drew1) | exact HB.out)) hb); clear HB; have HB := n0_; clear n0_; (try clear hb); (try clear hb2); (try clear hk); (try clear hi)) | (go_at_call 18; (with_reducible refine (safe_Mul.calls a0 a2 t246 _ A245.out).mono ?_); rintro e w258 ⟨rfl, hb⟩; have n0_ := Aside0.mk (below_step (by repeat (first | (with_reducible first | exact HB.out | apply below_alloc | apply pw_below_drewN | apply below_drew1) | exact HB.out)) hb); clear HB; have HB := n0_; clear n0_; (try clear hb); (try clear hb2); (try clear hk); (try clear hi)) | (go_at_call 18; (with_reducible refine (safe_Mul.calls a0 a2 t246 _ A246.out).mono ?_); rintro e w259 ⟨rfl, hb⟩; have n0_ := Aside0.mk (below_step (by repeat (first | (with_reducible first | exact HB.out | apply below_alloc | apply pw_below_drewN | apply below_drew1) | exact HB.out)) hb); clear HB; have HB := n0_; clear n0_; (try clear hb); (try clear hb2); (try clear hk); (try clear hi)))
                    go_ret
                    exact ⟨by first | rfl | (simp [errW_none, errW_some] <;> rfl) | (simp [*, errW_none, errW_some] <;> rfl), by repeat (first | (with_reducible first | exact HB.out | apply below_alloc | apply pw_below_drewN | apply below_drew1) | exact HB.out)⟩
                  · rw [if_neg c244] at H
                    have c244b0 : decide (t244 ≤ t244) = false := decide_eq_false c244
                    clear c244
                    exact absurd ((Option.some.inj H).trans hr_) (by simp)
                · rw [if_neg c241] at H
                  have c241b0 : decide (t242 ≤ t242) = false := decide_eq_false c241
                  clear c241
                  exact absurd ((Option.some.inj H).trans hr_) (by simp)
              · rw [if_neg c238] at H
                have c238b0 : decide (t240 ≤ t240) = false := decide_eq_false c238
                clear c238
                exact absurd ((Option.some.inj H).trans hr_) (by simp)
            · rw [if_neg c235] at H
              have c235b0 : (t238 == t239) = false := beq_eq_false_iff_ne.mpr c235
              have c235b1 : (t238 != t239) = true := bne_iff_ne.mpr c235
              exact absurd ((Option.some.inj H).trans hr_) (by simp)
          · rw [if_neg c232] at H
            have c232b0 : (t236 == t237) = false := beq_eq_false_iff_ne.mpr c232
            have c232b1 : (t236 != t237) = true := bne_iff_ne.mpr c232
            exact absurd ((Option.some.inj H).trans hr_) (by simp)
        · replace c229 := Bool.eq_false_iff.mpr c229
          subst c229
          have H1 : (some false) = some r := by rw [if_neg (show ¬ (false = true) by decide)] at H; exact H
          clear H
          have H := H1
          clear H1
          exact absurd ((Option.some.inj H).trans hr_) (by simp)

/-- THE ONE PURE STATEMENT of sawtoothlaw01_SafeOrder: yours. -/
def sawtoothlaw01_SafeOrder.Pure : Prop := ∀ (a0 : Int) (a1 : Int) (a2 : Int), (Lit.int .i64 a0).wf = true → (Lit.int .i64 a1).wf = true → (Lit.int .i64 a2).wf = true → sawtoothlaw01_SafeOrder.f a0 a1 a2 = some true
theorem sawtoothlaw01_SafeOrder.walk (P : sawtoothlaw01_SafeOrder.Pure) (a0 : Int) (a1 : Int) (a2 : Int) (w : World) (w0 : (Lit.int .i64 a0).wf = true) (w1 : (Lit.int .i64 a1).wf = true) (w2 : (Lit.int .i64 a2).wf = true) :
    Calls Try.prog 5 #[.int .i64 a0, .int .i64 a1, .int .i64 a2] w fun e w' => e = .returned (.bool true) ∧ Below w.heap.size w w' := by
  have h := P a0 a1 a2 w0 w1 w2
  refine (sawtoothlaw01_SafeOrder.calls a0 a1 a2 true w h rfl).mono ?_
  rintro e w' ⟨rfl, hd⟩
  exact ⟨rfl, hd⟩

end Go.Proofs.Ytdgnhmghniloiaa.Hp
