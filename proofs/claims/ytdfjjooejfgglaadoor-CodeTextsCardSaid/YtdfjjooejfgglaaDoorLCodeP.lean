/- Layer 5 in plain terms: see the texts that this one brings. -/
import Derived.Test.YtdfjjooejfgglaaDoorLCode3
